/- The code of the functions that the run calls, part 3. -/
import Derived.Test.YtjjdminaacibeaaGreatDoorPairLongC2
namespace Go.Proofs.YtjjdminaacibeaaGreatDoor.Ev.PairLong
set_option maxRecDepth 100000
def c187 : Code' := .fn ⟨(nat_lit 36), [],
 (.seq (.region [
  .ins ⟨(.p .mv), [.tmp (nat_lit 0)], (some (nat_lit 7)), none⟩,
  .ins ⟨(.p .mv), [.tmp (nat_lit 0)], (some (nat_lit 8)), none⟩,
  .ins ⟨(.p .nilck), [.tmp (nat_lit 8)], (some (nat_lit 9)), none⟩,
  .ins ⟨(.p (.fieldAddr (nat_lit 1))), [.tmp (nat_lit 9)], (some (nat_lit 10)), none⟩,
  .ins ⟨(.r (.load false (nat_lit 1))), [.tmp (nat_lit 10)], (some (nat_lit 11)), none⟩,
  .ins ⟨(.p .mv), [.tmp (nat_lit 1)], (some (nat_lit 12)), none⟩,
  .ins ⟨(.p .mv), [.tmp (nat_lit 2)], (some (nat_lit 13)), none⟩,
  .ins ⟨(.p (.build [(.int .i64 (.ofNat (nat_lit 0))), (.int .i64 (.ofNat (nat_lit 0)))] [((nat_lit 0), (nat_lit 1)), ((nat_lit 1), (nat_lit 1))])), [.tmp (nat_lit 12), .tmp (nat_lit 13)], (some (nat_lit 14)), none⟩,
  .ins ⟨(.a (.buildSlice [(.int .i64 (.ofNat (nat_lit 0))), (.int .i64 (.ofNat (nat_lit 0)))] (nat_lit 1) [((nat_lit 0), (nat_lit 2))])), [.tmp (nat_lit 14)], (some (nat_lit 15)), none⟩,
  .ins ⟨(.l (.append [(.int .i64 (.ofNat (nat_lit 0))), (.int .i64 (.ofNat (nat_lit 0)))] (nat_lit 2) (nat_lit 16))), [.tmp (nat_lit 11), .tmp (nat_lit 15)], (some (nat_lit 16)), none⟩,
  .ins ⟨(.p .nilck), [.tmp (nat_lit 7)], (some (nat_lit 17)), none⟩,
  .ins ⟨(.p (.fieldAddr (nat_lit 1))), [.tmp (nat_lit 17)], (some (nat_lit 18)), none⟩,
  .ins ⟨(.l (.store (nat_lit 1))), [.tmp (nat_lit 18), .tmp (nat_lit 16)], none, none⟩])
 (.seq (.region [
  .ins ⟨(.p .mv), [.tmp (nat_lit 0)], (some (nat_lit 19)), none⟩,
  .ins ⟨(.p .nilck), [.tmp (nat_lit 19)], (some (nat_lit 20)), none⟩,
  .ins ⟨(.p (.fieldAddr (nat_lit 1))), [.tmp (nat_lit 20)], (some (nat_lit 21)), none⟩,
  .ins ⟨(.r (.load false (nat_lit 1))), [.tmp (nat_lit 21)], (some (nat_lit 22)), none⟩,
  .ins ⟨(.p .lenSl), [.tmp (nat_lit 22)], (some (nat_lit 23)), none⟩,
  .ins ⟨(.p (.bini .sub)), [.tmp (nat_lit 23), .const (.int .i64 (.ofNat (nat_lit 16)))], (some (nat_lit 24)), none⟩,
  .ins ⟨(.p .mv), [.tmp (nat_lit 24)], (some (nat_lit 6)), none⟩])
 (.seq (.region [
  .ins ⟨(.p .mv), [.tmp (nat_lit 6)], (some (nat_lit 25)), none⟩,
  .ins ⟨(.p (.bini .gtr)), [.tmp (nat_lit 25), .const (.int .i64 (.ofNat (nat_lit 0)))], (some (nat_lit 26)), none⟩])
 (.cond (.tmp (nat_lit 26)) (.region [
  .ins ⟨(.p .mv), [.tmp (nat_lit 0)], (some (nat_lit 27)), none⟩,
  .ins ⟨(.p .mv), [.tmp (nat_lit 0)], (some (nat_lit 28)), none⟩,
  .ins ⟨(.p .nilck), [.tmp (nat_lit 28)], (some (nat_lit 29)), none⟩,
  .ins ⟨(.p (.fieldAddr (nat_lit 1))), [.tmp (nat_lit 29)], (some (nat_lit 30)), none⟩,
  .ins ⟨(.r (.load false (nat_lit 1))), [.tmp (nat_lit 30)], (some (nat_lit 31)), none⟩,
  .ins ⟨(.p .mv), [.tmp (nat_lit 6)], (some (nat_lit 32)), none⟩,
  .ins ⟨(.c .value), [.const (.func (.func (nat_lit 266)) [] []), .tmp (nat_lit 31), .const (.int .i64 (.ofNat (nat_lit 0))), .tmp (nat_lit 32)], (some (nat_lit 33)), none⟩,
  .ins ⟨(.p .nilck), [.tmp (nat_lit 27)], (some (nat_lit 34)), none⟩,
  .ins ⟨(.p (.fieldAddr (nat_lit 1))), [.tmp (nat_lit 34)], (some (nat_lit 35)), none⟩,
  .ins ⟨(.l (.store (nat_lit 1))), [.tmp (nat_lit 35), .tmp (nat_lit 33)], none, none⟩])
 .skip))))⟩

def c188 : Code' := .fn ⟨(nat_lit 2), [.cell (nat_lit 0) true (nat_lit 5)],
 (.seq (.region [
  .ins ⟨(.a (.alloc [(.int .i64 (.ofNat (nat_lit 0))), (.int .i64 (.ofNat (nat_lit 0))), (.int .i64 (.ofNat (nat_lit 0))), (.int .i64 (.ofNat (nat_lit 0))), (.int .i64 (.ofNat (nat_lit 0)))])), [], (some (nat_lit 0)), none⟩])
 (.seq (.region [
  .ins ⟨(.p (.build [(.int .i64 (.ofNat (nat_lit 0))), (.int .i64 (.ofNat (nat_lit 0))), (.int .i64 (.ofNat (nat_lit 0))), (.int .i64 (.ofNat (nat_lit 0))), (.int .i64 (.ofNat (nat_lit 0)))] [((nat_lit 0), (nat_lit 1)), ((nat_lit 1), (nat_lit 1)), ((nat_lit 2), (nat_lit 1)), ((nat_lit 3), (nat_lit 1)), ((nat_lit 4), (nat_lit 1))])), [.const (.int .i64 (.ofNat (nat_lit 4096))), .const (.int .i64 (.ofNat (nat_lit 4294967295))), .const (.int .i64 (.ofNat (nat_lit 65535))), .const (.int .i64 (.ofNat (nat_lit 16384))), .const (.int .i64 (.ofNat (nat_lit 4294967295)))], (some (nat_lit 1)), none⟩,
  .ins ⟨(.l (.store (nat_lit 5))), [.tmp (nat_lit 0), .tmp (nat_lit 1)], none, none⟩])
 .ret))⟩

def c189 : Code' := .fn ⟨(nat_lit 10), [.tmp (nat_lit 0)],
 (.seq (.region [
  .ins ⟨(.p .mv), [.const (.ptr none)], (some (nat_lit 0)), none⟩])
 (.seq (.region [
  .ins ⟨(.c .value), [.const (.func (.func (nat_lit 267)) [] []), .const (.int .i64 (.ofNat (nat_lit 4096)))], (some (nat_lit 4)), none⟩,
  .ins ⟨(.p .mv), [.tmp (nat_lit 4)], (some (nat_lit 3)), none⟩,
  .ins ⟨(.p (.extract (nat_lit 0))), [.tmp (nat_lit 3)], (some (nat_lit 5)), none⟩,
  .ins ⟨(.p (.extract (nat_lit 1))), [.tmp (nat_lit 3)], (some (nat_lit 6)), none⟩,
  .ins ⟨(.p .mv), [.tmp (nat_lit 5)], (some (nat_lit 1)), none⟩,
  .ins ⟨(.p .mv), [.tmp (nat_lit 6)], (some (nat_lit 2)), none⟩])
 (.seq (.region [
  .ins ⟨(.p .mv), [.tmp (nat_lit 1)], (some (nat_lit 7)), none⟩,
  .ins ⟨(.p (.build [(.ptr none), (.int .i64 (.ofNat (nat_lit 0))), (.int .i64 (.ofNat (nat_lit 0))), (.int .i64 (.ofNat (nat_lit 0)))] [((nat_lit 0), (nat_lit 1)), ((nat_lit 1), (nat_lit 1)), ((nat_lit 2), (nat_lit 1)), ((nat_lit 3), (nat_lit 1))])), [.tmp (nat_lit 7), .const (.int .i64 (.ofNat (nat_lit 4096))), .const (.int .i64 (.ofNat (nat_lit 4096))), .const (.int .i64 (.ofNat (nat_lit 4096)))], (some (nat_lit 8)), none⟩,
  .ins ⟨(.a .box), [.tmp (nat_lit 8)], (some (nat_lit 9)), none⟩,
  .ins ⟨(.p .mv), [.tmp (nat_lit 9)], (some (nat_lit 0)), none⟩])
 .ret)))⟩

def c190 : Code' := .fn ⟨(nat_lit 3), [.tmp (nat_lit 0)],
 (.seq (.region [
  .ins ⟨(.p .mv), [.const (.ptr none)], (some (nat_lit 0)), none⟩])
 (.seq (.region [
  .ins ⟨(.p (.build [(.int .i64 (.ofNat (nat_lit 0))), (.bool false), (.bool false), (.slice none (nat_lit 0) (nat_lit 0) (nat_lit 0))] [])), [], (some (nat_lit 1)), none⟩,
  .ins ⟨(.a .box), [.tmp (nat_lit 1)], (some (nat_lit 2)), none⟩,
  .ins ⟨(.p .mv), [.tmp (nat_lit 2)], (some (nat_lit 0)), none⟩])
 .ret))⟩

def c191 : Code' := .fn ⟨(nat_lit 3), [.tmp (nat_lit 0)],
 (.seq (.region [
  .ins ⟨(.p .mv), [.const (.ptr none)], (some (nat_lit 0)), none⟩])
 (.seq (.region [
  .ins ⟨(.p (.build [(.slice none (nat_lit 0) (nat_lit 0) (nat_lit 0)), (.slice none (nat_lit 0) (nat_lit 0) (nat_lit 0)), (.int .i64 (.ofNat (nat_lit 0)))] [])), [], (some (nat_lit 1)), none⟩,
  .ins ⟨(.a .box), [.tmp (nat_lit 1)], (some (nat_lit 2)), none⟩,
  .ins ⟨(.p .mv), [.tmp (nat_lit 2)], (some (nat_lit 0)), none⟩])
 .ret))⟩

def c192 : Code' := .fn ⟨(nat_lit 30), [.tmp (nat_lit 2), .tmp (nat_lit 3)],
 (.seq (.region [
  .ins ⟨(.a .box), [.tmp (nat_lit 0)], (some (nat_lit 1)), none⟩,
  .ins ⟨(.p .mv), [.const (.ptr none)], (some (nat_lit 2)), none⟩,
  .ins ⟨(.p .mv), [.const (.int .i64 (.ofNat (nat_lit 0)))], (some (nat_lit 3)), none⟩])
 (.seq (.seq (.region [
  .ins ⟨(.r (.load true (nat_lit 5))), [.tmp (nat_lit 1)], (some (nat_lit 6)), none⟩,
  .ins ⟨(.c .value), [.const (.func (.func (nat_lit 178)) [] []), .tmp (nat_lit 6)], (some (nat_lit 7)), none⟩,
  .ins ⟨(.p .mv), [.tmp (nat_lit 7)], (some (nat_lit 4)), none⟩])
 (.seq (.region [
  .ins ⟨(.p .mv), [.tmp (nat_lit 4)], (some (nat_lit 8)), none⟩,
  .ins ⟨(.p (.bini .neq)), [.tmp (nat_lit 8), .const (.int .i64 (.ofNat (nat_lit 0)))], (some (nat_lit 9)), none⟩])
 (.cond (.tmp (nat_lit 9)) (.seq (.region [
  .ins ⟨(.p .mv), [.tmp (nat_lit 4)], (some (nat_lit 10)), none⟩,
  .ins ⟨(.p .mv), [.const (.ptr none)], (some (nat_lit 2)), none⟩,
  .ins ⟨(.p .mv), [.tmp (nat_lit 10)], (some (nat_lit 3)), none⟩])
 .ret)
 .skip)))
 (.seq (.region [
  .ins ⟨(.r (.load true (nat_lit 5))), [.tmp (nat_lit 1)], (some (nat_lit 11)), none⟩,
  .ins ⟨(.a (.buildSlice [(.int .i64 (.ofNat (nat_lit 0))), (.int .i64 (.ofNat (nat_lit 0))), (.int .i64 (.ofNat (nat_lit 0))), (.int .i64 (.ofNat (nat_lit 0))), (.int .i64 (.ofNat (nat_lit 0)))] (nat_lit 1) [((nat_lit 0), (nat_lit 5))])), [.tmp (nat_lit 11)], (some (nat_lit 12)), none⟩,
  .ins ⟨(.r (.load true (nat_lit 5))), [.tmp (nat_lit 1)], (some (nat_lit 14)), none⟩,
  .ins ⟨(.c .value), [.const (.func (.func (nat_lit 188)) [] [])], (some (nat_lit 13)), none⟩,
  .ins ⟨(.p (.build [(.slice none (nat_lit 0) (nat_lit 0) (nat_lit 0)), (.int .i64 (.ofNat (nat_lit 0))), (.int .i64 (.ofNat (nat_lit 0))), (.int .i64 (.ofNat (nat_lit 0))), (.int .i64 (.ofNat (nat_lit 0))), (.int .i64 (.ofNat (nat_lit 0))), (.int .i64 (.ofNat (nat_lit 0))), (.int .i64 (.ofNat (nat_lit 0))), (.int .i64 (.ofNat (nat_lit 0))), (.int .i64 (.ofNat (nat_lit 0))), (.int .i64 (.ofNat (nat_lit 0))), (.bool false)] [((nat_lit 0), (nat_lit 1)), ((nat_lit 1), (nat_lit 5)), ((nat_lit 6), (nat_lit 5))])), [.tmp (nat_lit 12), .tmp (nat_lit 13), .tmp (nat_lit 14)], (some (nat_lit 15)), none⟩,
  .ins ⟨(.a .box), [.tmp (nat_lit 15)], (some (nat_lit 16)), none⟩,
  .ins ⟨(.p .mv), [.tmp (nat_lit 16)], (some (nat_lit 5)), none⟩,
  .again ⟨(.r (.load true (nat_lit 5))), [.tmp (nat_lit 1)], (some (nat_lit 11)), none⟩,
  .again ⟨(.r (.load true (nat_lit 5))), [.tmp (nat_lit 1)], (some (nat_lit 14)), none⟩])
 (.seq (.region [
  .ins ⟨(.p .mv), [.tmp (nat_lit 5)], (some (nat_lit 17)), none⟩,
  .ins ⟨(.p .mv), [.tmp (nat_lit 5)], (some (nat_lit 18)), none⟩,
  .ins ⟨(.p (.fieldAddr (nat_lit 1))), [.tmp (nat_lit 1)], (some (nat_lit 19)), none⟩,
  .ins ⟨(.r (.load false (nat_lit 1))), [.tmp (nat_lit 19)], (some (nat_lit 20)), none⟩,
  .ins ⟨(.p (.fieldAddr (nat_lit 4))), [.tmp (nat_lit 1)], (some (nat_lit 21)), none⟩,
  .ins ⟨(.r (.load false (nat_lit 1))), [.tmp (nat_lit 21)], (some (nat_lit 22)), none⟩,
  .ins ⟨(.p .nilck), [.tmp (nat_lit 17)], (some (nat_lit 23)), none⟩,
  .ins ⟨(.p (.fieldAddr (nat_lit 1))), [.tmp (nat_lit 23)], (some (nat_lit 24)), none⟩,
  .ins ⟨(.p (.fieldAddr (nat_lit 1))), [.tmp (nat_lit 24)], (some (nat_lit 25)), none⟩,
  .ins ⟨(.l (.store (nat_lit 1))), [.tmp (nat_lit 25), .tmp (nat_lit 20)], none, none⟩,
  .ins ⟨(.p .nilck), [.tmp (nat_lit 18)], (some (nat_lit 26)), none⟩,
  .ins ⟨(.p (.fieldAddr (nat_lit 1))), [.tmp (nat_lit 26)], (some (nat_lit 27)), none⟩,
  .ins ⟨(.p (.fieldAddr (nat_lit 4))), [.tmp (nat_lit 27)], (some (nat_lit 28)), none⟩,
  .again ⟨(.r (.load false (nat_lit 1))), [.tmp (nat_lit 21)], (some (nat_lit 22)), none⟩,
  .ins ⟨(.l (.store (nat_lit 1))), [.tmp (nat_lit 28), .tmp (nat_lit 22)], none, none⟩])
 (.seq (.region [
  .ins ⟨(.p .mv), [.tmp (nat_lit 5)], (some (nat_lit 29)), none⟩,
  .ins ⟨(.p .mv), [.tmp (nat_lit 29)], (some (nat_lit 2)), none⟩,
  .ins ⟨(.p .mv), [.const (.int .i64 (.ofNat (nat_lit 0)))], (some (nat_lit 3)), none⟩])
 .ret)))))⟩

def c193 : Code' := .fn ⟨(nat_lit 18), [.tmp (nat_lit 4), .tmp (nat_lit 5)],
 (.seq (.region [
  .ins ⟨(.p .mv), [.const (.ptr none)], (some (nat_lit 4)), none⟩,
  .ins ⟨(.p .mv), [.const (.int .i64 (.ofNat (nat_lit 0)))], (some (nat_lit 5)), none⟩])
 (.seq (.region [
  .ins ⟨(.p .mv), [.tmp (nat_lit 0)], (some (nat_lit 8)), none⟩,
  .ins ⟨(.p (.build [(.bool false), (.int .i64 (.ofNat (nat_lit 0))), (.slice none (nat_lit 0) (nat_lit 0) (nat_lit 0)), (.int .i64 (.ofNat (nat_lit 0)))] [((nat_lit 0), (nat_lit 1))])), [.tmp (nat_lit 8)], (some (nat_lit 9)), none⟩,
  .ins ⟨(.a .box), [.tmp (nat_lit 9)], (some (nat_lit 10)), none⟩,
  .ins ⟨(.p .mv), [.tmp (nat_lit 10)], (some (nat_lit 6)), none⟩])
 (.seq (.seq (.region [
  .ins ⟨(.p .mv), [.tmp (nat_lit 6)], (some (nat_lit 11)), none⟩,
  .ins ⟨(.p .mv), [.tmp (nat_lit 1)], (some (nat_lit 12)), none⟩,
  .ins ⟨(.c .value), [.const (.func (.func (nat_lit 213)) [] []), .tmp (nat_lit 11), .tmp (nat_lit 12)], (some (nat_lit 13)), none⟩,
  .ins ⟨(.p .mv), [.tmp (nat_lit 13)], (some (nat_lit 7)), none⟩])
 (.seq (.region [
  .ins ⟨(.p .mv), [.tmp (nat_lit 7)], (some (nat_lit 14)), none⟩,
  .ins ⟨(.p (.bini .neq)), [.tmp (nat_lit 14), .const (.int .i64 (.ofNat (nat_lit 0)))], (some (nat_lit 15)), none⟩])
 (.cond (.tmp (nat_lit 15)) (.seq (.region [
  .ins ⟨(.p .mv), [.tmp (nat_lit 7)], (some (nat_lit 16)), none⟩,
  .ins ⟨(.p .mv), [.const (.ptr none)], (some (nat_lit 4)), none⟩,
  .ins ⟨(.p .mv), [.tmp (nat_lit 16)], (some (nat_lit 5)), none⟩])
 .ret)
 .skip)))
 (.seq (.region [
  .ins ⟨(.p .mv), [.tmp (nat_lit 6)], (some (nat_lit 17)), none⟩,
  .ins ⟨(.p .mv), [.tmp (nat_lit 17)], (some (nat_lit 4)), none⟩,
  .ins ⟨(.p .mv), [.const (.int .i64 (.ofNat (nat_lit 0)))], (some (nat_lit 5)), none⟩])
 .ret))))⟩

def c194 : Code' := .fn ⟨(nat_lit 20), [.tmp (nat_lit 2), .tmp (nat_lit 3)],
 (.seq (.region [
  .ins ⟨(.p .mv), [.const (.ptr none)], (some (nat_lit 2)), none⟩,
  .ins ⟨(.p .mv), [.const (.int .i64 (.ofNat (nat_lit 0)))], (some (nat_lit 3)), none⟩])
 (.seq (.region [
  .ins ⟨(.p .mv), [.tmp (nat_lit 0)], (some (nat_lit 7)), none⟩,
  .ins ⟨(.c .value), [.const (.func (.func (nat_lit 267)) [] []), .tmp (nat_lit 7)], (some (nat_lit 8)), none⟩,
  .ins ⟨(.p .mv), [.tmp (nat_lit 8)], (some (nat_lit 6)), none⟩,
  .ins ⟨(.p (.extract (nat_lit 0))), [.tmp (nat_lit 6)], (some (nat_lit 9)), none⟩,
  .ins ⟨(.p (.extract (nat_lit 1))), [.tmp (nat_lit 6)], (some (nat_lit 10)), none⟩,
  .ins ⟨(.p .mv), [.tmp (nat_lit 9)], (some (nat_lit 4)), none⟩,
  .ins ⟨(.p .mv), [.tmp (nat_lit 10)], (some (nat_lit 5)), none⟩])
 (.seq (.seq (.region [
  .ins ⟨(.p .mv), [.tmp (nat_lit 5)], (some (nat_lit 11)), none⟩,
  .ins ⟨(.p (.bini .neq)), [.tmp (nat_lit 11), .const (.int .i64 (.ofNat (nat_lit 0)))], (some (nat_lit 12)), none⟩])
 (.cond (.tmp (nat_lit 12)) (.seq (.region [
  .ins ⟨(.p .mv), [.tmp (nat_lit 5)], (some (nat_lit 13)), none⟩,
  .ins ⟨(.p .mv), [.const (.ptr none)], (some (nat_lit 2)), none⟩,
  .ins ⟨(.p .mv), [.tmp (nat_lit 13)], (some (nat_lit 3)), none⟩])
 .ret)
 .skip))
 (.seq (.region [
  .ins ⟨(.p .mv), [.tmp (nat_lit 4)], (some (nat_lit 14)), none⟩,
  .ins ⟨(.p .mv), [.tmp (nat_lit 0)], (some (nat_lit 15)), none⟩,
  .ins ⟨(.p .mv), [.tmp (nat_lit 0)], (some (nat_lit 16)), none⟩,
  .ins ⟨(.p (.bini .lss)), [.tmp (nat_lit 16), .const (.int .i64 (.ofNat (nat_lit 4096)))], (some (nat_lit 17)), none⟩,
  .ins ⟨(.p (.build [(.ptr none), (.int .i64 (.ofNat (nat_lit 0))), (.bool false), (.bool false)] [((nat_lit 0), (nat_lit 1)), ((nat_lit 1), (nat_lit 1)), ((nat_lit 2), (nat_lit 1))])), [.tmp (nat_lit 14), .tmp (nat_lit 15), .tmp (nat_lit 17)], (some (nat_lit 18)), none⟩,
  .ins ⟨(.a .box), [.tmp (nat_lit 18)], (some (nat_lit 19)), none⟩,
  .ins ⟨(.p .mv), [.tmp (nat_lit 19)], (some (nat_lit 2)), none⟩,
  .ins ⟨(.p .mv), [.const (.int .i64 (.ofNat (nat_lit 0)))], (some (nat_lit 3)), none⟩])
 .ret))))⟩

def c195 : Code' := .fn ⟨(nat_lit 3), [.tmp (nat_lit 0)],
 (.seq (.region [
  .ins ⟨(.p .mv), [.const (.slice none (nat_lit 0) (nat_lit 0) (nat_lit 0))], (some (nat_lit 0)), none⟩])
 (.seq (.region [
  .ins ⟨(.a (.buildSlice [(.int .u8 (.ofNat (nat_lit 0))), (.int .u8 (.ofNat (nat_lit 0))), (.int .u8 (.ofNat (nat_lit 0))), (.int .u8 (.ofNat (nat_lit 0))), (.int .u8 (.ofNat (nat_lit 0))), (.int .u8 (.ofNat (nat_lit 0))), (.int .u8 (.ofNat (nat_lit 0))), (.int .u8 (.ofNat (nat_lit 0))), (.int .u8 (.ofNat (nat_lit 0))), (.int .u8 (.ofNat (nat_lit 0))), (.int .u8 (.ofNat (nat_lit 0))), (.int .u8 (.ofNat (nat_lit 0))), (.int .u8 (.ofNat (nat_lit 0))), (.int .u8 (.ofNat (nat_lit 0))), (.int .u8 (.ofNat (nat_lit 0))), (.int .u8 (.ofNat (nat_lit 0))), (.int .u8 (.ofNat (nat_lit 0))), (.int .u8 (.ofNat (nat_lit 0))), (.int .u8 (.ofNat (nat_lit 0))), (.int .u8 (.ofNat (nat_lit 0))), (.int .u8 (.ofNat (nat_lit 0))), (.int .u8 (.ofNat (nat_lit 0))), (.int .u8 (.ofNat (nat_lit 0))), (.int .u8 (.ofNat (nat_lit 0)))] (nat_lit 24) [((nat_lit 0), (nat_lit 1)), ((nat_lit 1), (nat_lit 1)), ((nat_lit 2), (nat_lit 1)), ((nat_lit 3), (nat_lit 1)), ((nat_lit 4), (nat_lit 1)), ((nat_lit 5), (nat_lit 1)), ((nat_lit 6), (nat_lit 1)), ((nat_lit 7), (nat_lit 1)), ((nat_lit 8), (nat_lit 1)), ((nat_lit 9), (nat_lit 1)), ((nat_lit 10), (nat_lit 1)), ((nat_lit 11), (nat_lit 1)), ((nat_lit 12), (nat_lit 1)), ((nat_lit 13), (nat_lit 1)), ((nat_lit 14), (nat_lit 1)), ((nat_lit 15), (nat_lit 1)), ((nat_lit 16), (nat_lit 1)), ((nat_lit 17), (nat_lit 1)), ((nat_lit 18), (nat_lit 1)), ((nat_lit 19), (nat_lit 1)), ((nat_lit 20), (nat_lit 1)), ((nat_lit 21), (nat_lit 1)), ((nat_lit 22), (nat_lit 1)), ((nat_lit 23), (nat_lit 1))])), [.const (.int .u8 (.ofNat (nat_lit 80))), .const (.int .u8 (.ofNat (nat_lit 82))), .const (.int .u8 (.ofNat (nat_lit 73))), .const (.int .u8 (.ofNat (nat_lit 32))), .const (.int .u8 (.ofNat (nat_lit 42))), .const (.int .u8 (.ofNat (nat_lit 32))), .const (.int .u8 (.ofNat (nat_lit 72))), .const (.int .u8 (.ofNat (nat_lit 84))), .const (.int .u8 (.ofNat (nat_lit 84))), .const (.int .u8 (.ofNat (nat_lit 80))), .const (.int .u8 (.ofNat (nat_lit 47))), .const (.int .u8 (.ofNat (nat_lit 50))), .const (.int .u8 (.ofNat (nat_lit 46))), .const (.int .u8 (.ofNat (nat_lit 48))), .const (.int .u8 (.ofNat (nat_lit 13))), .const (.int .u8 (.ofNat (nat_lit 10))), .const (.int .u8 (.ofNat (nat_lit 13))), .const (.int .u8 (.ofNat (nat_lit 10))), .const (.int .u8 (.ofNat (nat_lit 83))), .const (.int .u8 (.ofNat (nat_lit 77))), .const (.int .u8 (.ofNat (nat_lit 13))), .const (.int .u8 (.ofNat (nat_lit 10))), .const (.int .u8 (.ofNat (nat_lit 13))), .const (.int .u8 (.ofNat (nat_lit 10)))], (some (nat_lit 1)), none⟩,
  .ins ⟨(.l .mark), [.tmp (nat_lit 1)], (some (nat_lit 2)), none⟩,
  .ins ⟨(.p .mv), [.tmp (nat_lit 2)], (some (nat_lit 0)), none⟩])
 .ret))⟩

def c196 : Code' := .fn ⟨(nat_lit 8), [.tmp (nat_lit 2)],
 (.seq (.region [
  .ins ⟨(.p .mv), [.const (.slice none (nat_lit 0) (nat_lit 0) (nat_lit 0))], (some (nat_lit 2)), none⟩])
 (.seq (.seq (.region [
  .ins ⟨(.p .mv), [.tmp (nat_lit 0)], (some (nat_lit 3)), none⟩,
  .ins ⟨(.p (.eqnil .sl false)), [.tmp (nat_lit 3), .const (.slice none (nat_lit 0) (nat_lit 0) (nat_lit 0))], (some (nat_lit 4)), none⟩])
 (.cond (.tmp (nat_lit 4)) (.seq (.region [
  .ins ⟨(.p .mv), [.const (.slice none (nat_lit 0) (nat_lit 0) (nat_lit 0))], (some (nat_lit 2)), none⟩])
 .ret)
 .skip))
 (.seq (.region [
  .ins ⟨(.a (.buildSlice [] (nat_lit 0) [])), [], (some (nat_lit 5)), none⟩,
  .ins ⟨(.p .mv), [.tmp (nat_lit 0)], (some (nat_lit 6)), none⟩,
  .ins ⟨(.l (.append [(.str (bs [])), (.str (bs [])), (.bool false)] (nat_lit 3) (nat_lit 40))), [.tmp (nat_lit 5), .tmp (nat_lit 6)], (some (nat_lit 7)), none⟩,
  .ins ⟨(.p .mv), [.tmp (nat_lit 7)], (some (nat_lit 2)), none⟩])
 .ret)))⟩

def c197 : Code' := .fn ⟨(nat_lit 38), [.tmp (nat_lit 4), .tmp (nat_lit 5)],
 (.seq (.region [
  .ins ⟨(.p .mv), [.const (.slice none (nat_lit 0) (nat_lit 0) (nat_lit 0))], (some (nat_lit 4)), none⟩,
  .ins ⟨(.p .mv), [.const (.bool false)], (some (nat_lit 5)), none⟩])
 (.seq (.seq (.region [
  .ins ⟨(.p .mv), [.tmp (nat_lit 0)], (some (nat_lit 8)), none⟩,
  .ins ⟨(.p (.eqnil .ptr false)), [.tmp (nat_lit 8), .const (.ptr none)], (some (nat_lit 9)), none⟩,
  .ins ⟨(.p .mv), [.tmp (nat_lit 9)], (some (nat_lit 10)), none⟩,
  .ins ⟨(.p .mv), [.tmp (nat_lit 1)], (some (nat_lit 11)), (some ((nat_lit 10), false))⟩,
  .ins ⟨(.p (.bini .lss)), [.tmp (nat_lit 11), .const (.int .i64 (.ofNat (nat_lit 1)))], (some (nat_lit 12)), (some ((nat_lit 10), false))⟩,
  .ins ⟨(.p .pick), [.tmp (nat_lit 10), .const (.bool true), .tmp (nat_lit 12)], (some (nat_lit 13)), none⟩])
 (.cond (.tmp (nat_lit 13)) (.seq (.region [
  .ins ⟨(.p .mv), [.const (.slice none (nat_lit 0) (nat_lit 0) (nat_lit 0))], (some (nat_lit 4)), none⟩,
  .ins ⟨(.p .mv), [.const (.bool false)], (some (nat_lit 5)), none⟩])
 .ret)
 .skip))
 (.seq (.region [
  .ins ⟨(.p .mv), [.tmp (nat_lit 0)], (some (nat_lit 14)), none⟩,
  .ins ⟨(.p .mv), [.tmp (nat_lit 1)], (some (nat_lit 15)), none⟩,
  .ins ⟨(.c .value), [.const (.func (.func (nat_lit 268)) [] []), .tmp (nat_lit 14), .tmp (nat_lit 15)], (some (nat_lit 16)), none⟩,
  .ins ⟨(.p .mv), [.tmp (nat_lit 16)], (some (nat_lit 6)), none⟩])
 (.seq (.region [
  .ins ⟨(.p .mv), [.tmp (nat_lit 0)], (some (nat_lit 17)), none⟩,
  .ins ⟨(.c .value), [.const (.func (.func (nat_lit 269)) [] []), .tmp (nat_lit 17)], (some (nat_lit 18)), none⟩,
  .ins ⟨(.p .mv), [.tmp (nat_lit 18)], (some (nat_lit 19)), none⟩,
  .ins ⟨(.p .mv), [.tmp (nat_lit 0)], (some (nat_lit 20)), (some ((nat_lit 19), true))⟩,
  .ins ⟨(.p .nilck), [.tmp (nat_lit 20)], (some (nat_lit 21)), (some ((nat_lit 19), true))⟩,
  .ins ⟨(.p (.fieldAddr (nat_lit 2))), [.tmp (nat_lit 21)], (some (nat_lit 22)), (some ((nat_lit 19), true))⟩,
  .ins ⟨(.r (.load false (nat_lit 1))), [.tmp (nat_lit 22)], (some (nat_lit 23)), (some ((nat_lit 19), true))⟩,
  .ins ⟨(.p (.un .not)), [.tmp (nat_lit 23)], (some (nat_lit 24)), (some ((nat_lit 19), true))⟩,
  .ins ⟨(.p .pick), [.tmp (nat_lit 19), .tmp (nat_lit 24), .const (.bool false)], (some (nat_lit 25)), none⟩,
  .ins ⟨(.p .mv), [.tmp (nat_lit 25)], (some (nat_lit 7)), none⟩])
 (.seq (.region [
  .ins ⟨(.p .mv), [.tmp (nat_lit 0)], (some (nat_lit 26)), none⟩,
  .ins ⟨(.p .mv), [.tmp (nat_lit 0)], (some (nat_lit 27)), none⟩,
  .ins ⟨(.p .nilck), [.tmp (nat_lit 27)], (some (nat_lit 28)), none⟩,
  .ins ⟨(.p (.fieldAddr (nat_lit 2))), [.tmp (nat_lit 28)], (some (nat_lit 29)), none⟩,
  .ins ⟨(.r (.load false (nat_lit 1))), [.tmp (nat_lit 29)], (some (nat_lit 30)), none⟩,
  .ins ⟨(.p .mv), [.tmp (nat_lit 30)], (some (nat_lit 31)), none⟩,
  .ins ⟨(.p .mv), [.tmp (nat_lit 7)], (some (nat_lit 32)), (some ((nat_lit 31), false))⟩,
  .ins ⟨(.p .pick), [.tmp (nat_lit 31), .const (.bool true), .tmp (nat_lit 32)], (some (nat_lit 33)), none⟩,
  .ins ⟨(.p .nilck), [.tmp (nat_lit 26)], (some (nat_lit 34)), none⟩,
  .ins ⟨(.p (.fieldAddr (nat_lit 2))), [.tmp (nat_lit 34)], (some (nat_lit 35)), none⟩,
  .ins ⟨(.l (.store (nat_lit 1))), [.tmp (nat_lit 35), .tmp (nat_lit 33)], none, none⟩])
 (.seq (.region [
  .ins ⟨(.p .mv), [.tmp (nat_lit 6)], (some (nat_lit 36)), none⟩,
  .ins ⟨(.p .mv), [.tmp (nat_lit 7)], (some (nat_lit 37)), none⟩,
  .ins ⟨(.p .mv), [.tmp (nat_lit 36)], (some (nat_lit 4)), none⟩,
  .ins ⟨(.p .mv), [.tmp (nat_lit 37)], (some (nat_lit 5)), none⟩])
 .ret))))))⟩

def c198 : Code' := .fn ⟨(nat_lit 22), [],
 (.seq (.region [
  .ins ⟨(.p .mv), [.tmp (nat_lit 0)], (some (nat_lit 4)), none⟩,
  .ins ⟨(.p (.eqnil .ptr true)), [.tmp (nat_lit 4), .const (.ptr none)], (some (nat_lit 5)), none⟩,
  .ins ⟨(.p .mv), [.tmp (nat_lit 5)], (some (nat_lit 6)), none⟩,
  .ins ⟨(.p .mv), [.tmp (nat_lit 0)], (some (nat_lit 7)), (some ((nat_lit 6), true))⟩,
  .ins ⟨(.p .nilck), [.tmp (nat_lit 7)], (some (nat_lit 8)), (some ((nat_lit 6), true))⟩,
  .ins ⟨(.p (.fieldAddr (nat_lit 1))), [.tmp (nat_lit 8)], (some (nat_lit 9)), (some ((nat_lit 6), true))⟩,
  .ins ⟨(.r (.load false (nat_lit 1))), [.tmp (nat_lit 9)], (some (nat_lit 10)), (some ((nat_lit 6), true))⟩,
  .ins ⟨(.p (.un .not)), [.tmp (nat_lit 10)], (some (nat_lit 11)), (some ((nat_lit 6), true))⟩,
  .ins ⟨(.p .pick), [.tmp (nat_lit 6), .tmp (nat_lit 11), .const (.bool false)], (some (nat_lit 12)), none⟩])
 (.cond (.tmp (nat_lit 12)) (.region [
  .ins ⟨(.p .mv), [.tmp (nat_lit 0)], (some (nat_lit 13)), none⟩,
  .ins ⟨(.p .mv), [.tmp (nat_lit 0)], (some (nat_lit 14)), none⟩,
  .ins ⟨(.p .nilck), [.tmp (nat_lit 14)], (some (nat_lit 15)), none⟩,
  .ins ⟨(.p (.fieldAddr (nat_lit 0))), [.tmp (nat_lit 15)], (some (nat_lit 16)), none⟩,
  .ins ⟨(.r (.load false (nat_lit 1))), [.tmp (nat_lit 16)], (some (nat_lit 17)), none⟩,
  .ins ⟨(.p .mv), [.tmp (nat_lit 1)], (some (nat_lit 18)), none⟩,
  .ins ⟨(.l (.append [(.int .u8 (.ofNat (nat_lit 0)))] (nat_lit 1) (nat_lit 1))), [.tmp (nat_lit 17), .tmp (nat_lit 18)], (some (nat_lit 19)), none⟩,
  .ins ⟨(.p .nilck), [.tmp (nat_lit 13)], (some (nat_lit 20)), none⟩,
  .ins ⟨(.p (.fieldAddr (nat_lit 0))), [.tmp (nat_lit 20)], (some (nat_lit 21)), none⟩,
  .ins ⟨(.l (.store (nat_lit 1))), [.tmp (nat_lit 21), .tmp (nat_lit 19)], none, none⟩])
 .skip))⟩

def c201 : Code' := .fn ⟨(nat_lit 13), [.tmp (nat_lit 4), .tmp (nat_lit 5), .tmp (nat_lit 6)],
 (.seq (.region [
  .ins ⟨(.p .mv), [.const (.str (bs []))], (some (nat_lit 4)), none⟩,
  .ins ⟨(.p .mv), [.const (.str (bs []))], (some (nat_lit 5)), none⟩,
  .ins ⟨(.p .mv), [.const (.bool false)], (some (nat_lit 6)), none⟩])
 (.seq (.region [
  .ins ⟨(.p .mv), [.tmp (nat_lit 0)], (some (nat_lit 7)), none⟩,
  .ins ⟨(.p .mv), [.tmp (nat_lit 1)], (some (nat_lit 8)), none⟩,
  .ins ⟨(.c .value), [.const (.func (.func (nat_lit 270)) [] []), .tmp (nat_lit 7), .tmp (nat_lit 8)], (some (nat_lit 9)), none⟩,
  .ins ⟨(.p (.extract (nat_lit 0))), [.tmp (nat_lit 9)], (some (nat_lit 10)), none⟩,
  .ins ⟨(.p (.extract (nat_lit 1))), [.tmp (nat_lit 9)], (some (nat_lit 11)), none⟩,
  .ins ⟨(.p (.extract (nat_lit 2))), [.tmp (nat_lit 9)], (some (nat_lit 12)), none⟩,
  .ins ⟨(.p .mv), [.tmp (nat_lit 10)], (some (nat_lit 4)), none⟩,
  .ins ⟨(.p .mv), [.tmp (nat_lit 11)], (some (nat_lit 5)), none⟩,
  .ins ⟨(.p .mv), [.tmp (nat_lit 12)], (some (nat_lit 6)), none⟩])
 .ret))⟩

def c210 : Code' := .fn ⟨(nat_lit 27), [.tmp (nat_lit 2)],
 (.seq (.region [
  .ins ⟨(.p .mv), [.const (.bool false)], (some (nat_lit 2)), none⟩])
 (.seq (.seq (.region [
  .ins ⟨(.p .mv), [.tmp (nat_lit 0)], (some (nat_lit 3)), none⟩,
  .ins ⟨(.p .lenStr), [.tmp (nat_lit 3)], (some (nat_lit 4)), none⟩,
  .ins ⟨(.p (.bini .gtr)), [.tmp (nat_lit 4), .const (.int .i64 (.ofNat (nat_lit 65536)))], (some (nat_lit 5)), none⟩,
  .ins ⟨(.p .mv), [.tmp (nat_lit 5)], (some (nat_lit 6)), none⟩,
  .ins ⟨(.p .mv), [.tmp (nat_lit 0)], (some (nat_lit 7)), (some ((nat_lit 6), false))⟩,
  .ins ⟨(.c .value), [.const (.func (.func (nat_lit 277)) [] []), .tmp (nat_lit 7), .const (.str (bs [(nat_lit 0), (nat_lit 10), (nat_lit 13)]))], (some (nat_lit 8)), (some ((nat_lit 6), false))⟩,
  .ins ⟨(.p .pick), [.tmp (nat_lit 6), .const (.bool true), .tmp (nat_lit 8)], (some (nat_lit 9)), none⟩])
 (.cond (.tmp (nat_lit 9)) (.seq (.region [
  .ins ⟨(.p .mv), [.const (.bool false)], (some (nat_lit 2)), none⟩])
 .ret)
 .skip))
 (.seq (.region [
  .ins ⟨(.p .mv), [.tmp (nat_lit 0)], (some (nat_lit 10)), none⟩,
  .ins ⟨(.p (.bins .eql)), [.tmp (nat_lit 10), .const (.str (bs []))], (some (nat_lit 11)), none⟩,
  .ins ⟨(.p .mv), [.tmp (nat_lit 11)], (some (nat_lit 12)), none⟩,
  .ins ⟨(.p .mv), [.tmp (nat_lit 0)], (some (nat_lit 13)), (some ((nat_lit 12), false))⟩,
  .ins ⟨(.p .indexStr), [.tmp (nat_lit 13), .const (.int .i64 (.ofNat (nat_lit 0)))], (some (nat_lit 14)), (some ((nat_lit 12), false))⟩,
  .ins ⟨(.c .value), [.const (.func (.func (nat_lit 278)) [] []), .tmp (nat_lit 14)], (some (nat_lit 15)), (some ((nat_lit 12), false))⟩,
  .ins ⟨(.p (.un .not)), [.tmp (nat_lit 15)], (some (nat_lit 16)), (some ((nat_lit 12), false))⟩,
  .ins ⟨(.p .mv), [.tmp (nat_lit 16)], (some (nat_lit 17)), (some ((nat_lit 12), false))⟩,
  .ins ⟨(.p .mv), [.tmp (nat_lit 0)], (some (nat_lit 18)), (some ((nat_lit 17), true))⟩,
  .ins ⟨(.p .mv), [.tmp (nat_lit 0)], (some (nat_lit 19)), (some ((nat_lit 17), true))⟩,
  .ins ⟨(.p .lenStr), [.tmp (nat_lit 19)], (some (nat_lit 20)), (some ((nat_lit 17), true))⟩,
  .ins ⟨(.p (.bini .sub)), [.tmp (nat_lit 20), .const (.int .i64 (.ofNat (nat_lit 1)))], (some (nat_lit 21)), (some ((nat_lit 17), true))⟩,
  .ins ⟨(.p .indexStr), [.tmp (nat_lit 18), .tmp (nat_lit 21)], (some (nat_lit 22)), (some ((nat_lit 17), true))⟩,
  .ins ⟨(.c .value), [.const (.func (.func (nat_lit 278)) [] []), .tmp (nat_lit 22)], (some (nat_lit 23)), (some ((nat_lit 17), true))⟩,
  .ins ⟨(.p (.un .not)), [.tmp (nat_lit 23)], (some (nat_lit 24)), (some ((nat_lit 17), true))⟩,
  .ins ⟨(.p .pick), [.tmp (nat_lit 17), .tmp (nat_lit 24), .const (.bool false)], (some (nat_lit 25)), (some ((nat_lit 12), false))⟩,
  .ins ⟨(.p .pick), [.tmp (nat_lit 12), .const (.bool true), .tmp (nat_lit 25)], (some (nat_lit 26)), none⟩,
  .ins ⟨(.p .mv), [.tmp (nat_lit 26)], (some (nat_lit 2)), none⟩])
 .ret)))⟩

def c212 : Code' := .fn ⟨(nat_lit 69), [.tmp (nat_lit 6)],
 (.seq (.region [
  .ins ⟨(.a .box), [.tmp (nat_lit 2)], (some (nat_lit 5)), none⟩,
  .ins ⟨(.p .mv), [.const (.int .i64 (.ofNat (nat_lit 0)))], (some (nat_lit 6)), none⟩])
 (.seq (.seq (.region [
  .ins ⟨(.p (.fieldAddr (nat_lit 1))), [.tmp (nat_lit 5)], (some (nat_lit 7)), none⟩,
  .ins ⟨(.r (.load false (nat_lit 1))), [.tmp (nat_lit 7)], (some (nat_lit 8)), none⟩,
  .ins ⟨(.c .value), [.const (.func (.func (nat_lit 255)) [] []), .tmp (nat_lit 8), .const (.int .i64 (.ofNat (nat_lit 0))), .const (.int .i64 (.ofNat (nat_lit 4294967295)))], (some (nat_lit 9)), none⟩,
  .ins ⟨(.p (.un .not)), [.tmp (nat_lit 9)], (some (nat_lit 10)), none⟩])
 (.cond (.tmp (nat_lit 10)) (.seq (.region [
  .ins ⟨(.p .mv), [.const (.int .i64 (.ofNat (nat_lit 1)))], (some (nat_lit 6)), none⟩])
 .ret)
 .skip))
 (.seq (.seq (.region [
  .ins ⟨(.p (.fieldAddr (nat_lit 0))), [.tmp (nat_lit 5)], (some (nat_lit 11)), none⟩,
  .ins ⟨(.r (.load false (nat_lit 1))), [.tmp (nat_lit 11)], (some (nat_lit 12)), none⟩])
 (.block (nat_lit 0) (.seq (.region [
  .ins ⟨(.p (.bini .eql)), [.tmp (nat_lit 12), .const (.int .i64 (.ofNat (nat_lit 1)))], (some (nat_lit 14)), none⟩,
  .ins ⟨(.p .mv), [.tmp (nat_lit 14)], (some (nat_lit 13)), none⟩])
 (.cond (.tmp (nat_lit 13)) (.region [
  .ins ⟨(.p .mv), [.tmp (nat_lit 1)], (some (nat_lit 15)), none⟩,
  .ins ⟨(.p (.fieldAddr (nat_lit 1))), [.tmp (nat_lit 5)], (some (nat_lit 16)), none⟩,
  .ins ⟨(.r (.load false (nat_lit 1))), [.tmp (nat_lit 16)], (some (nat_lit 17)), none⟩,
  .ins ⟨(.p .nilck), [.tmp (nat_lit 15)], (some (nat_lit 18)), none⟩,
  .ins ⟨(.p (.fieldAddr (nat_lit 0))), [.tmp (nat_lit 18)], (some (nat_lit 19)), none⟩,
  .ins ⟨(.l (.store (nat_lit 1))), [.tmp (nat_lit 19), .tmp (nat_lit 17)], none, none⟩])
 (.seq (.region [
  .ins ⟨(.p (.bini .eql)), [.tmp (nat_lit 12), .const (.int .i64 (.ofNat (nat_lit 2)))], (some (nat_lit 21)), none⟩,
  .ins ⟨(.p .mv), [.tmp (nat_lit 21)], (some (nat_lit 20)), none⟩])
 (.cond (.tmp (nat_lit 20)) (.seq (.region [
  .ins ⟨(.p (.fieldAddr (nat_lit 1))), [.tmp (nat_lit 5)], (some (nat_lit 22)), none⟩,
  .ins ⟨(.r (.load false (nat_lit 1))), [.tmp (nat_lit 22)], (some (nat_lit 23)), none⟩,
  .ins ⟨(.p (.bini .gtr)), [.tmp (nat_lit 23), .const (.int .i64 (.ofNat (nat_lit 1)))], (some (nat_lit 24)), none⟩,
  .ins ⟨(.p .mv), [.tmp (nat_lit 24)], (some (nat_lit 25)), none⟩,
  .ins ⟨(.p (.fieldAddr (nat_lit 1))), [.tmp (nat_lit 5)], (some (nat_lit 26)), (some ((nat_lit 25), false))⟩,
  .ins ⟨(.r (.load false (nat_lit 1))), [.tmp (nat_lit 26)], (some (nat_lit 27)), (some ((nat_lit 25), false))⟩,
  .ins ⟨(.p (.bini .eql)), [.tmp (nat_lit 27), .const (.int .i64 (.ofNat (nat_lit 1)))], (some (nat_lit 28)), (some ((nat_lit 25), false))⟩,
  .ins ⟨(.p .mv), [.tmp (nat_lit 28)], (some (nat_lit 29)), (some ((nat_lit 25), false))⟩,
  .ins ⟨(.p .mv), [.tmp (nat_lit 0)], (some (nat_lit 30)), (some ((nat_lit 29), true))⟩,
  .ins ⟨(.p (.bini .eql)), [.tmp (nat_lit 30), .const (.int .i64 (.ofNat (nat_lit 1)))], (some (nat_lit 31)), (some ((nat_lit 29), true))⟩,
  .ins ⟨(.p .pick), [.tmp (nat_lit 29), .tmp (nat_lit 31), .const (.bool false)], (some (nat_lit 32)), (some ((nat_lit 25), false))⟩,
  .ins ⟨(.p .pick), [.tmp (nat_lit 25), .const (.bool true), .tmp (nat_lit 32)], (some (nat_lit 33)), none⟩])
 (.cond (.tmp (nat_lit 33)) (.seq (.region [
  .ins ⟨(.p .mv), [.const (.int .i64 (.ofNat (nat_lit 1)))], (some (nat_lit 6)), none⟩])
 .ret)
 .skip))
 (.seq (.region [
  .ins ⟨(.p (.bini .eql)), [.tmp (nat_lit 12), .const (.int .i64 (.ofNat (nat_lit 3)))], (some (nat_lit 35)), none⟩,
  .ins ⟨(.p .mv), [.tmp (nat_lit 35)], (some (nat_lit 34)), none⟩])
 (.cond (.tmp (nat_lit 34)) (.region [
  .ins ⟨(.p .mv), [.tmp (nat_lit 1)], (some (nat_lit 36)), none⟩,
  .ins ⟨(.p (.fieldAddr (nat_lit 1))), [.tmp (nat_lit 5)], (some (nat_lit 37)), none⟩,
  .ins ⟨(.r (.load false (nat_lit 1))), [.tmp (nat_lit 37)], (some (nat_lit 38)), none⟩,
  .ins ⟨(.p .nilck), [.tmp (nat_lit 36)], (some (nat_lit 39)), none⟩,
  .ins ⟨(.p (.fieldAddr (nat_lit 1))), [.tmp (nat_lit 39)], (some (nat_lit 40)), none⟩,
  .ins ⟨(.l (.store (nat_lit 1))), [.tmp (nat_lit 40), .tmp (nat_lit 38)], none, none⟩])
 (.seq (.region [
  .ins ⟨(.p (.bini .eql)), [.tmp (nat_lit 12), .const (.int .i64 (.ofNat (nat_lit 4)))], (some (nat_lit 42)), none⟩,
  .ins ⟨(.p .mv), [.tmp (nat_lit 42)], (some (nat_lit 41)), none⟩])
 (.cond (.tmp (nat_lit 41)) (.seq (.seq (.region [
  .ins ⟨(.p (.fieldAddr (nat_lit 1))), [.tmp (nat_lit 5)], (some (nat_lit 43)), none⟩,
  .ins ⟨(.r (.load false (nat_lit 1))), [.tmp (nat_lit 43)], (some (nat_lit 44)), none⟩,
  .ins ⟨(.p (.bini .gtr)), [.tmp (nat_lit 44), .const (.int .i64 (.ofNat (nat_lit 2147483647)))], (some (nat_lit 45)), none⟩])
 (.cond (.tmp (nat_lit 45)) (.seq (.region [
  .ins ⟨(.p .mv), [.const (.int .i64 (.ofNat (nat_lit 3)))], (some (nat_lit 6)), none⟩])
 .ret)
 .skip))
 (.region [
  .ins ⟨(.p .mv), [.tmp (nat_lit 1)], (some (nat_lit 46)), none⟩,
  .ins ⟨(.p (.fieldAddr (nat_lit 1))), [.tmp (nat_lit 5)], (some (nat_lit 47)), none⟩,
  .ins ⟨(.r (.load false (nat_lit 1))), [.tmp (nat_lit 47)], (some (nat_lit 48)), none⟩,
  .ins ⟨(.p .nilck), [.tmp (nat_lit 46)], (some (nat_lit 49)), none⟩,
  .ins ⟨(.p (.fieldAddr (nat_lit 2))), [.tmp (nat_lit 49)], (some (nat_lit 50)), none⟩,
  .ins ⟨(.l (.store (nat_lit 1))), [.tmp (nat_lit 50), .tmp (nat_lit 48)], none, none⟩]))
 (.seq (.region [
  .ins ⟨(.p (.bini .eql)), [.tmp (nat_lit 12), .const (.int .i64 (.ofNat (nat_lit 5)))], (some (nat_lit 52)), none⟩,
  .ins ⟨(.p .mv), [.tmp (nat_lit 52)], (some (nat_lit 51)), none⟩])
 (.cond (.tmp (nat_lit 51)) (.seq (.seq (.region [
  .ins ⟨(.p (.fieldAddr (nat_lit 1))), [.tmp (nat_lit 5)], (some (nat_lit 53)), none⟩,
  .ins ⟨(.r (.load false (nat_lit 1))), [.tmp (nat_lit 53)], (some (nat_lit 54)), none⟩,
  .ins ⟨(.c .value), [.const (.func (.func (nat_lit 255)) [] []), .tmp (nat_lit 54), .const (.int .i64 (.ofNat (nat_lit 16384))), .const (.int .i64 (.ofNat (nat_lit 16777215)))], (some (nat_lit 55)), none⟩,
  .ins ⟨(.p (.un .not)), [.tmp (nat_lit 55)], (some (nat_lit 56)), none⟩])
 (.cond (.tmp (nat_lit 56)) (.seq (.region [
  .ins ⟨(.p .mv), [.const (.int .i64 (.ofNat (nat_lit 1)))], (some (nat_lit 6)), none⟩])
 .ret)
 .skip))
 (.region [
  .ins ⟨(.p .mv), [.tmp (nat_lit 1)], (some (nat_lit 57)), none⟩,
  .ins ⟨(.p (.fieldAddr (nat_lit 1))), [.tmp (nat_lit 5)], (some (nat_lit 58)), none⟩,
  .ins ⟨(.r (.load false (nat_lit 1))), [.tmp (nat_lit 58)], (some (nat_lit 59)), none⟩,
  .ins ⟨(.p .nilck), [.tmp (nat_lit 57)], (some (nat_lit 60)), none⟩,
  .ins ⟨(.p (.fieldAddr (nat_lit 3))), [.tmp (nat_lit 60)], (some (nat_lit 61)), none⟩,
  .ins ⟨(.l (.store (nat_lit 1))), [.tmp (nat_lit 61), .tmp (nat_lit 59)], none, none⟩]))
 (.seq (.region [
  .ins ⟨(.p (.bini .eql)), [.tmp (nat_lit 12), .const (.int .i64 (.ofNat (nat_lit 6)))], (some (nat_lit 63)), none⟩,
  .ins ⟨(.p .mv), [.tmp (nat_lit 63)], (some (nat_lit 62)), none⟩])
 (.cond (.tmp (nat_lit 62)) (.region [
  .ins ⟨(.p .mv), [.tmp (nat_lit 1)], (some (nat_lit 64)), none⟩,
  .ins ⟨(.p (.fieldAddr (nat_lit 1))), [.tmp (nat_lit 5)], (some (nat_lit 65)), none⟩,
  .ins ⟨(.r (.load false (nat_lit 1))), [.tmp (nat_lit 65)], (some (nat_lit 66)), none⟩,
  .ins ⟨(.p .nilck), [.tmp (nat_lit 64)], (some (nat_lit 67)), none⟩,
  .ins ⟨(.p (.fieldAddr (nat_lit 4))), [.tmp (nat_lit 67)], (some (nat_lit 68)), none⟩,
  .ins ⟨(.l (.store (nat_lit 1))), [.tmp (nat_lit 68), .tmp (nat_lit 66)], none, none⟩])
 .skip))))))))))))))
 (.seq (.region [
  .ins ⟨(.p .mv), [.const (.int .i64 (.ofNat (nat_lit 0)))], (some (nat_lit 6)), none⟩])
 .ret))))⟩

def c213 : Code' := .fn ⟨(nat_lit 19), [.tmp (nat_lit 4)],
 (.seq (.region [
  .ins ⟨(.p .mv), [.const (.int .i64 (.ofNat (nat_lit 0)))], (some (nat_lit 4)), none⟩])
 (.seq (.seq (.region [
  .ins ⟨(.p .mv), [.tmp (nat_lit 0)], (some (nat_lit 5)), none⟩,
  .ins ⟨(.p (.eqnil .ptr false)), [.tmp (nat_lit 5), .const (.ptr none)], (some (nat_lit 6)), none⟩,
  .ins ⟨(.p .mv), [.tmp (nat_lit 6)], (some (nat_lit 7)), none⟩,
  .ins ⟨(.p .mv), [.tmp (nat_lit 1)], (some (nat_lit 8)), (some ((nat_lit 7), false))⟩,
  .ins ⟨(.p (.bini .lss)), [.tmp (nat_lit 8), .const (.int .i64 (.ofNat (nat_lit 16384)))], (some (nat_lit 9)), (some ((nat_lit 7), false))⟩,
  .ins ⟨(.p .pick), [.tmp (nat_lit 7), .const (.bool true), .tmp (nat_lit 9)], (some (nat_lit 10)), none⟩,
  .ins ⟨(.p .mv), [.tmp (nat_lit 10)], (some (nat_lit 11)), none⟩,
  .ins ⟨(.p .mv), [.tmp (nat_lit 1)], (some (nat_lit 12)), (some ((nat_lit 11), false))⟩,
  .ins ⟨(.p (.bini .gtr)), [.tmp (nat_lit 12), .const (.int .i64 (.ofNat (nat_lit 16777215)))], (some (nat_lit 13)), (some ((nat_lit 11), false))⟩,
  .ins ⟨(.p .pick), [.tmp (nat_lit 11), .const (.bool true), .tmp (nat_lit 13)], (some (nat_lit 14)), none⟩])
 (.cond (.tmp (nat_lit 14)) (.seq (.region [
  .ins ⟨(.p .mv), [.const (.int .i64 (.ofNat (nat_lit 1)))], (some (nat_lit 4)), none⟩])
 .ret)
 .skip))
 (.seq (.region [
  .ins ⟨(.p .mv), [.tmp (nat_lit 0)], (some (nat_lit 15)), none⟩,
  .ins ⟨(.p .mv), [.tmp (nat_lit 1)], (some (nat_lit 16)), none⟩,
  .ins ⟨(.p .nilck), [.tmp (nat_lit 15)], (some (nat_lit 17)), none⟩,
  .ins ⟨(.p (.fieldAddr (nat_lit 1))), [.tmp (nat_lit 17)], (some (nat_lit 18)), none⟩,
  .ins ⟨(.l (.store (nat_lit 1))), [.tmp (nat_lit 18), .tmp (nat_lit 16)], none, none⟩])
 (.seq (.region [
  .ins ⟨(.p .mv), [.const (.int .i64 (.ofNat (nat_lit 0)))], (some (nat_lit 4)), none⟩])
 .ret))))⟩

def c214 : Code' := .fn ⟨(nat_lit 35), [.tmp (nat_lit 4)],
 (.seq (.region [
  .ins ⟨(.p .mv), [.const (.int .i64 (.ofNat (nat_lit 0)))], (some (nat_lit 4)), none⟩])
 (.seq (.seq (.region [
  .ins ⟨(.p .mv), [.tmp (nat_lit 0)], (some (nat_lit 5)), none⟩,
  .ins ⟨(.p (.eqnil .ptr false)), [.tmp (nat_lit 5), .const (.ptr none)], (some (nat_lit 6)), none⟩,
  .ins ⟨(.p .mv), [.tmp (nat_lit 6)], (some (nat_lit 7)), none⟩,
  .ins ⟨(.p .mv), [.tmp (nat_lit 1)], (some (nat_lit 8)), (some ((nat_lit 7), false))⟩,
  .ins ⟨(.p (.bini .lss)), [.tmp (nat_lit 8), .const (.int .i64 (.ofNat (nat_lit 0)))], (some (nat_lit 9)), (some ((nat_lit 7), false))⟩,
  .ins ⟨(.p .pick), [.tmp (nat_lit 7), .const (.bool true), .tmp (nat_lit 9)], (some (nat_lit 10)), none⟩,
  .ins ⟨(.p .mv), [.tmp (nat_lit 10)], (some (nat_lit 11)), none⟩,
  .ins ⟨(.p .mv), [.tmp (nat_lit 1)], (some (nat_lit 12)), (some ((nat_lit 11), false))⟩,
  .ins ⟨(.p (.bini .gtr)), [.tmp (nat_lit 12), .const (.int .i64 (.ofNat (nat_lit 65536)))], (some (nat_lit 13)), (some ((nat_lit 11), false))⟩,
  .ins ⟨(.p .pick), [.tmp (nat_lit 11), .const (.bool true), .tmp (nat_lit 13)], (some (nat_lit 14)), none⟩])
 (.cond (.tmp (nat_lit 14)) (.seq (.region [
  .ins ⟨(.p .mv), [.const (.int .i64 (.ofNat (nat_lit 1)))], (some (nat_lit 4)), none⟩])
 .ret)
 .skip))
 (.seq (.region [
  .ins ⟨(.p .mv), [.tmp (nat_lit 0)], (some (nat_lit 15)), none⟩,
  .ins ⟨(.p .mv), [.tmp (nat_lit 1)], (some (nat_lit 16)), none⟩,
  .ins ⟨(.p .nilck), [.tmp (nat_lit 15)], (some (nat_lit 17)), none⟩,
  .ins ⟨(.p (.fieldAddr (nat_lit 1))), [.tmp (nat_lit 17)], (some (nat_lit 18)), none⟩,
  .ins ⟨(.l (.store (nat_lit 1))), [.tmp (nat_lit 18), .tmp (nat_lit 16)], none, none⟩])
 (.seq (.region [
  .ins ⟨(.p .mv), [.tmp (nat_lit 0)], (some (nat_lit 19)), none⟩,
  .ins ⟨(.p .mv), [.tmp (nat_lit 0)], (some (nat_lit 20)), none⟩,
  .ins ⟨(.p .nilck), [.tmp (nat_lit 20)], (some (nat_lit 21)), none⟩,
  .ins ⟨(.p (.fieldAddr (nat_lit 2))), [.tmp (nat_lit 21)], (some (nat_lit 22)), none⟩,
  .ins ⟨(.r (.load false (nat_lit 1))), [.tmp (nat_lit 22)], (some (nat_lit 23)), none⟩,
  .ins ⟨(.p .mv), [.tmp (nat_lit 23)], (some (nat_lit 24)), none⟩,
  .ins ⟨(.p .mv), [.tmp (nat_lit 0)], (some (nat_lit 25)), (some ((nat_lit 24), false))⟩,
  .ins ⟨(.p .nilck), [.tmp (nat_lit 25)], (some (nat_lit 26)), (some ((nat_lit 24), false))⟩,
  .ins ⟨(.p (.fieldAddr (nat_lit 0))), [.tmp (nat_lit 26)], (some (nat_lit 27)), (some ((nat_lit 24), false))⟩,
  .ins ⟨(.r (.load false (nat_lit 1))), [.tmp (nat_lit 27)], (some (nat_lit 28)), (some ((nat_lit 24), false))⟩,
  .ins ⟨(.c .value), [.const (.func (.func (nat_lit 279)) [] []), .tmp (nat_lit 28)], (some (nat_lit 29)), (some ((nat_lit 24), false))⟩,
  .ins ⟨(.p .mv), [.tmp (nat_lit 1)], (some (nat_lit 30)), (some ((nat_lit 24), false))⟩,
  .ins ⟨(.p (.bini .gtr)), [.tmp (nat_lit 29), .tmp (nat_lit 30)], (some (nat_lit 31)), (some ((nat_lit 24), false))⟩,
  .ins ⟨(.p .pick), [.tmp (nat_lit 24), .const (.bool true), .tmp (nat_lit 31)], (some (nat_lit 32)), none⟩,
  .ins ⟨(.p .nilck), [.tmp (nat_lit 19)], (some (nat_lit 33)), none⟩,
  .ins ⟨(.p (.fieldAddr (nat_lit 2))), [.tmp (nat_lit 33)], (some (nat_lit 34)), none⟩,
  .ins ⟨(.l (.store (nat_lit 1))), [.tmp (nat_lit 34), .tmp (nat_lit 32)], none, none⟩])
 (.seq (.region [
  .ins ⟨(.p .mv), [.const (.int .i64 (.ofNat (nat_lit 0)))], (some (nat_lit 4)), none⟩])
 .ret)))))⟩

def c215 : Code' := .fn ⟨(nat_lit 9), [.tmp (nat_lit 2)],
 (.seq (.region [
  .ins ⟨(.p .mv), [.const (.bool false)], (some (nat_lit 2)), none⟩])
 (.seq (.region [
  .ins ⟨(.p .mv), [.tmp (nat_lit 0)], (some (nat_lit 3)), none⟩,
  .ins ⟨(.p (.bini .geq)), [.tmp (nat_lit 3), .const (.int .i64 (.ofNat (nat_lit 1)))], (some (nat_lit 4)), none⟩,
  .ins ⟨(.p .mv), [.tmp (nat_lit 4)], (some (nat_lit 5)), none⟩,
  .ins ⟨(.p .mv), [.tmp (nat_lit 0)], (some (nat_lit 6)), (some ((nat_lit 5), true))⟩,
  .ins ⟨(.p (.bini .leq)), [.tmp (nat_lit 6), .const (.int .i64 (.ofNat (nat_lit 5)))], (some (nat_lit 7)), (some ((nat_lit 5), true))⟩,
  .ins ⟨(.p .pick), [.tmp (nat_lit 5), .tmp (nat_lit 7), .const (.bool false)], (some (nat_lit 8)), none⟩,
  .ins ⟨(.p .mv), [.tmp (nat_lit 8)], (some (nat_lit 2)), none⟩])
 .ret))⟩

def c216 : Code' := .fn ⟨(nat_lit 35), [.tmp (nat_lit 6)],
 (.seq (.region [
  .ins ⟨(.p .mv), [.const (.int .i64 (.ofNat (nat_lit 0)))], (some (nat_lit 6)), none⟩])
 (.seq (.seq (.region [
  .ins ⟨(.p .mv), [.tmp (nat_lit 0)], (some (nat_lit 7)), none⟩,
  .ins ⟨(.p .nilck), [.tmp (nat_lit 7)], (some (nat_lit 8)), none⟩,
  .ins ⟨(.p (.fieldAddr (nat_lit 0))), [.tmp (nat_lit 8)], (some (nat_lit 9)), none⟩,
  .ins ⟨(.r (.load false (nat_lit 1))), [.tmp (nat_lit 9)], (some (nat_lit 10)), none⟩])
 (.block (nat_lit 0) (.seq (.region [
  .ins ⟨(.p (.bini .eql)), [.tmp (nat_lit 10), .const (.int .i64 (.ofNat (nat_lit 0)))], (some (nat_lit 12)), none⟩,
  .ins ⟨(.p .mv), [.tmp (nat_lit 12)], (some (nat_lit 11)), none⟩])
 (.cond (.tmp (nat_lit 11)) (.seq (.seq (.region [
  .ins ⟨(.p .mv), [.tmp (nat_lit 1)], (some (nat_lit 13)), none⟩,
  .ins ⟨(.p (.bini .eql)), [.tmp (nat_lit 13), .const (.int .i64 (.ofNat (nat_lit 2)))], (some (nat_lit 14)), none⟩])
 (.cond (.tmp (nat_lit 14)) (.seq (.region [
  .ins ⟨(.p .mv), [.const (.int .i64 (.ofNat (nat_lit 8)))], (some (nat_lit 6)), none⟩])
 .ret)
 .skip))
 (.seq (.region [
  .ins ⟨(.p .mv), [.tmp (nat_lit 0)], (some (nat_lit 15)), none⟩,
  .ins ⟨(.p .nilck), [.tmp (nat_lit 15)], (some (nat_lit 16)), none⟩,
  .ins ⟨(.p (.fieldAddr (nat_lit 0))), [.tmp (nat_lit 16)], (some (nat_lit 17)), none⟩,
  .ins ⟨(.l (.store (nat_lit 1))), [.tmp (nat_lit 17), .const (.int .i64 (.ofNat (nat_lit 1)))], none, none⟩])
 (.seq (.region [
  .ins ⟨(.p .mv), [.tmp (nat_lit 2)], (some (nat_lit 18)), none⟩])
 (.cond (.tmp (nat_lit 18)) (.region [
  .ins ⟨(.p .mv), [.tmp (nat_lit 0)], (some (nat_lit 19)), none⟩,
  .ins ⟨(.p .nilck), [.tmp (nat_lit 19)], (some (nat_lit 20)), none⟩,
  .ins ⟨(.p (.fieldAddr (nat_lit 0))), [.tmp (nat_lit 20)], (some (nat_lit 21)), none⟩,
  .ins ⟨(.l (.store (nat_lit 1))), [.tmp (nat_lit 21), .const (.int .i64 (.ofNat (nat_lit 2)))], none, none⟩])
 .skip))))
 (.seq (.region [
  .ins ⟨(.p (.bini .eql)), [.tmp (nat_lit 10), .const (.int .i64 (.ofNat (nat_lit 1)))], (some (nat_lit 23)), none⟩,
  .ins ⟨(.p .mv), [.tmp (nat_lit 23)], (some (nat_lit 22)), none⟩])
 (.cond (.tmp (nat_lit 22)) (.seq (.region [
  .ins ⟨(.p .mv), [.tmp (nat_lit 2)], (some (nat_lit 24)), none⟩])
 (.cond (.tmp (nat_lit 24)) (.region [
  .ins ⟨(.p .mv), [.tmp (nat_lit 0)], (some (nat_lit 25)), none⟩,
  .ins ⟨(.p .nilck), [.tmp (nat_lit 25)], (some (nat_lit 26)), none⟩,
  .ins ⟨(.p (.fieldAddr (nat_lit 0))), [.tmp (nat_lit 26)], (some (nat_lit 27)), none⟩,
  .ins ⟨(.l (.store (nat_lit 1))), [.tmp (nat_lit 27), .const (.int .i64 (.ofNat (nat_lit 2)))], none, none⟩])
 .skip))
 (.seq (.region [
  .ins ⟨(.p (.bini .eql)), [.tmp (nat_lit 10), .const (.int .i64 (.ofNat (nat_lit 3)))], (some (nat_lit 29)), none⟩,
  .ins ⟨(.p .mv), [.tmp (nat_lit 29)], (some (nat_lit 28)), none⟩])
 (.cond (.tmp (nat_lit 28)) (.seq (.region [
  .ins ⟨(.p .mv), [.tmp (nat_lit 2)], (some (nat_lit 30)), none⟩])
 (.cond (.tmp (nat_lit 30)) (.region [
  .ins ⟨(.p .mv), [.tmp (nat_lit 0)], (some (nat_lit 31)), none⟩,
  .ins ⟨(.c .value), [.const (.func (.func (nat_lit 217)) [] []), .tmp (nat_lit 31), .const (.int .i64 (.ofNat (nat_lit 1)))], (some (nat_lit 32)), none⟩])
 .skip))
 (.seq (.region [
  .ins ⟨(.p (.bini .eql)), [.tmp (nat_lit 10), .const (.int .i64 (.ofNat (nat_lit 2)))], (some (nat_lit 34)), none⟩,
  .ins ⟨(.p .mv), [.tmp (nat_lit 34)], (some (nat_lit 33)), none⟩])
 (.cond (.tmp (nat_lit 33)) (.seq (.region [
  .ins ⟨(.p .mv), [.const (.int .i64 (.ofNat (nat_lit 8)))], (some (nat_lit 6)), none⟩])
 .ret)
 (.seq (.region [
  .ins ⟨(.p .mv), [.const (.int .i64 (.ofNat (nat_lit 11)))], (some (nat_lit 6)), none⟩])
 .ret)))))))))))
 (.seq (.region [
  .ins ⟨(.p .mv), [.const (.int .i64 (.ofNat (nat_lit 0)))], (some (nat_lit 6)), none⟩])
 .ret)))⟩

def c217 : Code' := .fn ⟨(nat_lit 11), [],
 (.region [
  .ins ⟨(.p .mv), [.tmp (nat_lit 0)], (some (nat_lit 4)), none⟩,
  .ins ⟨(.p .mv), [.tmp (nat_lit 0)], (some (nat_lit 5)), none⟩,
  .ins ⟨(.p .mv), [.tmp (nat_lit 1)], (some (nat_lit 6)), none⟩,
  .ins ⟨(.p .nilck), [.tmp (nat_lit 4)], (some (nat_lit 7)), none⟩,
  .ins ⟨(.p (.fieldAddr (nat_lit 0))), [.tmp (nat_lit 7)], (some (nat_lit 8)), none⟩,
  .ins ⟨(.l (.store (nat_lit 1))), [.tmp (nat_lit 8), .const (.int .i64 (.ofNat (nat_lit 4)))], none, none⟩,
  .ins ⟨(.p .nilck), [.tmp (nat_lit 5)], (some (nat_lit 9)), none⟩,
  .ins ⟨(.p (.fieldAddr (nat_lit 1))), [.tmp (nat_lit 9)], (some (nat_lit 10)), none⟩,
  .ins ⟨(.l (.store (nat_lit 1))), [.tmp (nat_lit 10), .tmp (nat_lit 6)], none, none⟩])⟩

def c220 : Code' := .fn ⟨(nat_lit 27), [.cell (nat_lit 2) true (nat_lit 4), .tmp (nat_lit 3), .tmp (nat_lit 4)],
 (.seq (.region [
  .ins ⟨(.a (.alloc [(.int .i64 (.ofNat (nat_lit 0))), (.int .i64 (.ofNat (nat_lit 0))), (.int .i64 (.ofNat (nat_lit 0))), (.slice none (nat_lit 0) (nat_lit 0) (nat_lit 0))])), [], (some (nat_lit 2)), none⟩,
  .ins ⟨(.p .mv), [.const (.int .i64 (.ofNat (nat_lit 0)))], (some (nat_lit 3)), none⟩,
  .ins ⟨(.p .mv), [.const (.int .i64 (.ofNat (nat_lit 0)))], (some (nat_lit 4)), none⟩])
 (.seq (.seq (.region [
  .ins ⟨(.p .mv), [.tmp (nat_lit 0)], (some (nat_lit 6)), none⟩,
  .ins ⟨(.p .lenSl), [.tmp (nat_lit 6)], (some (nat_lit 7)), none⟩,
  .ins ⟨(.p (.bini .lss)), [.tmp (nat_lit 7), .const (.int .i64 (.ofNat (nat_lit 9)))], (some (nat_lit 8)), none⟩])
 (.cond (.tmp (nat_lit 8)) (.seq (.region [
  .ins ⟨(.p (.build [(.int .i64 (.ofNat (nat_lit 0))), (.int .i64 (.ofNat (nat_lit 0))), (.int .i64 (.ofNat (nat_lit 0))), (.slice none (nat_lit 0) (nat_lit 0) (nat_lit 0))] [])), [], (some (nat_lit 9)), none⟩,
  .ins ⟨(.l (.store (nat_lit 4))), [.tmp (nat_lit 2), .tmp (nat_lit 9)], none, none⟩,
  .ins ⟨(.p .mv), [.const (.int .i64 (.ofNat (nat_lit 0)))], (some (nat_lit 3)), none⟩,
  .ins ⟨(.p .mv), [.const (.int .i64 (.ofNat (nat_lit 3)))], (some (nat_lit 4)), none⟩])
 .ret)
 .skip))
 (.seq (.region [
  .ins ⟨(.p .mv), [.tmp (nat_lit 0)], (some (nat_lit 10)), none⟩,
  .ins ⟨(.p (.indexAddr (nat_lit 1))), [.tmp (nat_lit 10), .const (.int .i64 (.ofNat (nat_lit 3)))], (some (nat_lit 11)), none⟩,
  .ins ⟨(.r (.load false (nat_lit 1))), [.tmp (nat_lit 11)], (some (nat_lit 12)), none⟩,
  .ins ⟨(.p (.convInt .i64)), [.tmp (nat_lit 12)], (some (nat_lit 13)), none⟩,
  .ins ⟨(.p .mv), [.tmp (nat_lit 0)], (some (nat_lit 14)), none⟩,
  .ins ⟨(.p (.indexAddr (nat_lit 1))), [.tmp (nat_lit 14), .const (.int .i64 (.ofNat (nat_lit 4)))], (some (nat_lit 15)), none⟩,
  .ins ⟨(.r (.load false (nat_lit 1))), [.tmp (nat_lit 15)], (some (nat_lit 16)), none⟩,
  .ins ⟨(.p (.convInt .i64)), [.tmp (nat_lit 16)], (some (nat_lit 17)), none⟩,
  .ins ⟨(.p .mv), [.tmp (nat_lit 0)], (some (nat_lit 18)), none⟩,
  .ins ⟨(.p (.slice (nat_lit 1) true true)), [.tmp (nat_lit 18), .const (.int .i64 (.ofNat (nat_lit 5))), .const (.int .i64 (.ofNat (nat_lit 9)))], (some (nat_lit 19)), none⟩,
  .ins ⟨(.a (.alloc [(.int .i64 (.ofNat (nat_lit 0))), (.int .i64 (.ofNat (nat_lit 0))), (.int .i64 (.ofNat (nat_lit 0))), (.slice none (nat_lit 0) (nat_lit 0) (nat_lit 0))])), [], (some (nat_lit 5)), none⟩,
  .ins ⟨(.c .value), [.const (.func (.func (nat_lit 225)) [] []), .tmp (nat_lit 19)], (some (nat_lit 20)), none⟩,
  .ins ⟨(.p (.bini .and)), [.tmp (nat_lit 20), .const (.int .i64 (.ofNat (nat_lit 2147483647)))], (some (nat_lit 21)), none⟩,
  .ins ⟨(.p (.build [(.int .i64 (.ofNat (nat_lit 0))), (.int .i64 (.ofNat (nat_lit 0))), (.int .i64 (.ofNat (nat_lit 0))), (.slice none (nat_lit 0) (nat_lit 0) (nat_lit 0))] [((nat_lit 0), (nat_lit 1)), ((nat_lit 1), (nat_lit 1)), ((nat_lit 2), (nat_lit 1))])), [.tmp (nat_lit 13), .tmp (nat_lit 17), .tmp (nat_lit 21)], (some (nat_lit 22)), none⟩,
  .again ⟨(.r (.load false (nat_lit 1))), [.tmp (nat_lit 11)], (some (nat_lit 12)), none⟩,
  .again ⟨(.r (.load false (nat_lit 1))), [.tmp (nat_lit 15)], (some (nat_lit 16)), none⟩,
  .ins ⟨(.l (.store (nat_lit 4))), [.tmp (nat_lit 5), .tmp (nat_lit 22)], none, none⟩])
 (.seq (.region [
  .ins ⟨(.r (.load true (nat_lit 4))), [.tmp (nat_lit 5)], (some (nat_lit 23)), none⟩,
  .ins ⟨(.p .mv), [.tmp (nat_lit 0)], (some (nat_lit 24)), none⟩,
  .ins ⟨(.p (.slice (nat_lit 1) false true)), [.tmp (nat_lit 24), .const (.int .i64 (.ofNat (nat_lit 3)))], (some (nat_lit 25)), none⟩,
  .ins ⟨(.c .value), [.const (.func (.func (nat_lit 225)) [] []), .tmp (nat_lit 25)], (some (nat_lit 26)), none⟩,
  .again ⟨(.r (.load true (nat_lit 4))), [.tmp (nat_lit 5)], (some (nat_lit 23)), none⟩,
  .ins ⟨(.l (.store (nat_lit 4))), [.tmp (nat_lit 2), .tmp (nat_lit 23)], none, none⟩,
  .ins ⟨(.p .mv), [.tmp (nat_lit 26)], (some (nat_lit 3)), none⟩,
  .ins ⟨(.p .mv), [.const (.int .i64 (.ofNat (nat_lit 0)))], (some (nat_lit 4)), none⟩])
 .ret))))⟩

def c221 : Code' := .fn ⟨(nat_lit 15), [.tmp (nat_lit 2)],
 (.seq (.region [
  .ins ⟨(.p .mv), [.const (.int .i64 (.ofNat (nat_lit 0)))], (some (nat_lit 2)), none⟩])
 (.seq (.seq (.region [
  .ins ⟨(.p .mv), [.tmp (nat_lit 0)], (some (nat_lit 3)), none⟩])
 (.block (nat_lit 0) (.seq (.seq (.region [
  .ins ⟨(.p (.bini .eql)), [.tmp (nat_lit 3), .const (.int .i64 (.ofNat (nat_lit 0)))], (some (nat_lit 5)), none⟩,
  .ins ⟨(.p .mv), [.tmp (nat_lit 5)], (some (nat_lit 4)), none⟩])
 (.cond (.tmp (nat_lit 4)) .skip
 (.seq (.region [
  .ins ⟨(.p (.bini .eql)), [.tmp (nat_lit 3), .const (.int .i64 (.ofNat (nat_lit 1)))], (some (nat_lit 6)), none⟩,
  .ins ⟨(.p .mv), [.tmp (nat_lit 6)], (some (nat_lit 4)), none⟩])
 (.cond (.tmp (nat_lit 4)) .skip
 (.seq (.region [
  .ins ⟨(.p (.bini .eql)), [.tmp (nat_lit 3), .const (.int .i64 (.ofNat (nat_lit 2)))], (some (nat_lit 7)), none⟩,
  .ins ⟨(.p .mv), [.tmp (nat_lit 7)], (some (nat_lit 4)), none⟩])
 (.cond (.tmp (nat_lit 4)) .skip
 (.seq (.region [
  .ins ⟨(.p (.bini .eql)), [.tmp (nat_lit 3), .const (.int .i64 (.ofNat (nat_lit 3)))], (some (nat_lit 8)), none⟩,
  .ins ⟨(.p .mv), [.tmp (nat_lit 8)], (some (nat_lit 4)), none⟩])
 (.cond (.tmp (nat_lit 4)) .skip
 (.seq (.region [
  .ins ⟨(.p (.bini .eql)), [.tmp (nat_lit 3), .const (.int .i64 (.ofNat (nat_lit 5)))], (some (nat_lit 9)), none⟩,
  .ins ⟨(.p .mv), [.tmp (nat_lit 9)], (some (nat_lit 4)), none⟩])
 (.cond (.tmp (nat_lit 4)) .skip
 (.region [
  .ins ⟨(.p (.bini .eql)), [.tmp (nat_lit 3), .const (.int .i64 (.ofNat (nat_lit 9)))], (some (nat_lit 10)), none⟩,
  .ins ⟨(.p .mv), [.tmp (nat_lit 10)], (some (nat_lit 4)), none⟩])))))))))))
 (.cond (.tmp (nat_lit 4)) (.seq (.region [
  .ins ⟨(.p .mv), [.const (.int .i64 (.ofNat (nat_lit 1)))], (some (nat_lit 2)), none⟩])
 .ret)
 (.seq (.seq (.region [
  .ins ⟨(.p (.bini .eql)), [.tmp (nat_lit 3), .const (.int .i64 (.ofNat (nat_lit 4)))], (some (nat_lit 12)), none⟩,
  .ins ⟨(.p .mv), [.tmp (nat_lit 12)], (some (nat_lit 11)), none⟩])
 (.cond (.tmp (nat_lit 11)) .skip
 (.seq (.region [
  .ins ⟨(.p (.bini .eql)), [.tmp (nat_lit 3), .const (.int .i64 (.ofNat (nat_lit 6)))], (some (nat_lit 13)), none⟩,
  .ins ⟨(.p .mv), [.tmp (nat_lit 13)], (some (nat_lit 11)), none⟩])
 (.cond (.tmp (nat_lit 11)) .skip
 (.region [
  .ins ⟨(.p (.bini .eql)), [.tmp (nat_lit 3), .const (.int .i64 (.ofNat (nat_lit 7)))], (some (nat_lit 14)), none⟩,
  .ins ⟨(.p .mv), [.tmp (nat_lit 14)], (some (nat_lit 11)), none⟩])))))
 (.cond (.tmp (nat_lit 11)) (.seq (.region [
  .ins ⟨(.p .mv), [.const (.int .i64 (.ofNat (nat_lit 0)))], (some (nat_lit 2)), none⟩])
 .ret)
 .skip))))))
 (.seq (.region [
  .ins ⟨(.p .mv), [.const (.int .i64 (.negSucc (nat_lit 0)))], (some (nat_lit 2)), none⟩])
 .ret)))⟩

def c222 : Code' := .fn ⟨(nat_lit 48), [.tmp (nat_lit 4), .tmp (nat_lit 5)],
 (.seq (.region [
  .ins ⟨(.a .box), [.tmp (nat_lit 0)], (some (nat_lit 2)), none⟩,
  .ins ⟨(.p .mv), [.const (.slice none (nat_lit 0) (nat_lit 0) (nat_lit 0))], (some (nat_lit 4)), none⟩,
  .ins ⟨(.p .mv), [.const (.int .i64 (.ofNat (nat_lit 0)))], (some (nat_lit 5)), none⟩])
 (.seq (.region [
  .ins ⟨(.p (.fieldAddr (nat_lit 3))), [.tmp (nat_lit 2)], (some (nat_lit 7)), none⟩,
  .ins ⟨(.r (.load false (nat_lit 1))), [.tmp (nat_lit 7)], (some (nat_lit 8)), none⟩,
  .ins ⟨(.p .mv), [.tmp (nat_lit 8)], (some (nat_lit 6)), none⟩])
 (.seq (.seq (.region [
  .ins ⟨(.p (.fieldAddr (nat_lit 0))), [.tmp (nat_lit 2)], (some (nat_lit 9)), none⟩,
  .ins ⟨(.r (.load false (nat_lit 1))), [.tmp (nat_lit 9)], (some (nat_lit 10)), none⟩,
  .ins ⟨(.c .value), [.const (.func (.func (nat_lit 257)) [] []), .tmp (nat_lit 10)], (some (nat_lit 11)), none⟩,
  .ins ⟨(.p (.un .not)), [.tmp (nat_lit 11)], (some (nat_lit 12)), none⟩,
  .ins ⟨(.p .mv), [.tmp (nat_lit 12)], (some (nat_lit 13)), none⟩,
  .ins ⟨(.p (.fieldAddr (nat_lit 1))), [.tmp (nat_lit 2)], (some (nat_lit 14)), (some ((nat_lit 13), false))⟩,
  .ins ⟨(.r (.load false (nat_lit 1))), [.tmp (nat_lit 14)], (some (nat_lit 15)), (some ((nat_lit 13), false))⟩,
  .ins ⟨(.p (.bini .and)), [.tmp (nat_lit 15), .const (.int .i64 (.ofNat (nat_lit 8)))], (some (nat_lit 16)), (some ((nat_lit 13), false))⟩,
  .ins ⟨(.p (.bini .eql)), [.tmp (nat_lit 16), .const (.int .i64 (.ofNat (nat_lit 0)))], (some (nat_lit 17)), (some ((nat_lit 13), false))⟩,
  .ins ⟨(.p .pick), [.tmp (nat_lit 13), .const (.bool true), .tmp (nat_lit 17)], (some (nat_lit 18)), none⟩])
 (.cond (.tmp (nat_lit 18)) (.seq (.region [
  .ins ⟨(.p .mv), [.tmp (nat_lit 6)], (some (nat_lit 19)), none⟩,
  .ins ⟨(.p .mv), [.tmp (nat_lit 19)], (some (nat_lit 4)), none⟩,
  .ins ⟨(.p .mv), [.const (.int .i64 (.ofNat (nat_lit 0)))], (some (nat_lit 5)), none⟩])
 .ret)
 .skip))
 (.seq (.seq (.region [
  .ins ⟨(.p .mv), [.tmp (nat_lit 6)], (some (nat_lit 20)), none⟩,
  .ins ⟨(.p .lenSl), [.tmp (nat_lit 20)], (some (nat_lit 21)), none⟩,
  .ins ⟨(.p (.bini .eql)), [.tmp (nat_lit 21), .const (.int .i64 (.ofNat (nat_lit 0)))], (some (nat_lit 22)), none⟩])
 (.cond (.tmp (nat_lit 22)) (.seq (.region [
  .ins ⟨(.p .mv), [.const (.slice none (nat_lit 0) (nat_lit 0) (nat_lit 0))], (some (nat_lit 4)), none⟩,
  .ins ⟨(.p .mv), [.const (.int .i64 (.ofNat (nat_lit 6)))], (some (nat_lit 5)), none⟩])
 .ret)
 .skip))
 (.seq (.region [
  .ins ⟨(.p .mv), [.tmp (nat_lit 1)], (some (nat_lit 23)), none⟩,
  .ins ⟨(.p .mv), [.tmp (nat_lit 6)], (some (nat_lit 24)), none⟩,
  .ins ⟨(.p (.indexAddr (nat_lit 1))), [.tmp (nat_lit 24), .const (.int .i64 (.ofNat (nat_lit 0)))], (some (nat_lit 25)), none⟩,
  .ins ⟨(.r (.load false (nat_lit 1))), [.tmp (nat_lit 25)], (some (nat_lit 26)), none⟩,
  .ins ⟨(.p (.convInt .i64)), [.tmp (nat_lit 26)], (some (nat_lit 27)), none⟩,
  .ins ⟨(.p .nilck), [.tmp (nat_lit 23)], (some (nat_lit 28)), none⟩,
  .ins ⟨(.p (.fieldAddr (nat_lit 1))), [.tmp (nat_lit 28)], (some (nat_lit 29)), none⟩,
  .ins ⟨(.l (.store (nat_lit 1))), [.tmp (nat_lit 29), .tmp (nat_lit 27)], none, none⟩])
 (.seq (.region [
  .ins ⟨(.p .mv), [.tmp (nat_lit 6)], (some (nat_lit 30)), none⟩,
  .ins ⟨(.p (.slice (nat_lit 1) true false)), [.tmp (nat_lit 30), .const (.int .i64 (.ofNat (nat_lit 1)))], (some (nat_lit 31)), none⟩,
  .ins ⟨(.p .mv), [.tmp (nat_lit 31)], (some (nat_lit 6)), none⟩])
 (.seq (.seq (.region [
  .ins ⟨(.p .mv), [.tmp (nat_lit 1)], (some (nat_lit 32)), none⟩,
  .ins ⟨(.p .nilck), [.tmp (nat_lit 32)], (some (nat_lit 33)), none⟩,
  .ins ⟨(.p (.fieldAddr (nat_lit 1))), [.tmp (nat_lit 33)], (some (nat_lit 34)), none⟩,
  .ins ⟨(.r (.load false (nat_lit 1))), [.tmp (nat_lit 34)], (some (nat_lit 35)), none⟩,
  .ins ⟨(.p .mv), [.tmp (nat_lit 6)], (some (nat_lit 36)), none⟩,
  .ins ⟨(.p .lenSl), [.tmp (nat_lit 36)], (some (nat_lit 37)), none⟩,
  .ins ⟨(.p (.bini .gtr)), [.tmp (nat_lit 35), .tmp (nat_lit 37)], (some (nat_lit 38)), none⟩])
 (.cond (.tmp (nat_lit 38)) (.seq (.region [
  .ins ⟨(.p .mv), [.const (.slice none (nat_lit 0) (nat_lit 0) (nat_lit 0))], (some (nat_lit 4)), none⟩,
  .ins ⟨(.p .mv), [.const (.int .i64 (.ofNat (nat_lit 1)))], (some (nat_lit 5)), none⟩])
 .ret)
 .skip))
 (.seq (.region [
  .ins ⟨(.p .mv), [.tmp (nat_lit 6)], (some (nat_lit 39)), none⟩,
  .ins ⟨(.p .mv), [.tmp (nat_lit 6)], (some (nat_lit 40)), none⟩,
  .ins ⟨(.p .lenSl), [.tmp (nat_lit 40)], (some (nat_lit 41)), none⟩,
  .ins ⟨(.p .mv), [.tmp (nat_lit 1)], (some (nat_lit 42)), none⟩,
  .ins ⟨(.p .nilck), [.tmp (nat_lit 42)], (some (nat_lit 43)), none⟩,
  .ins ⟨(.p (.fieldAddr (nat_lit 1))), [.tmp (nat_lit 43)], (some (nat_lit 44)), none⟩,
  .ins ⟨(.r (.load false (nat_lit 1))), [.tmp (nat_lit 44)], (some (nat_lit 45)), none⟩,
  .ins ⟨(.p (.bini .sub)), [.tmp (nat_lit 41), .tmp (nat_lit 45)], (some (nat_lit 46)), none⟩,
  .ins ⟨(.p (.slice (nat_lit 1) false true)), [.tmp (nat_lit 39), .tmp (nat_lit 46)], (some (nat_lit 47)), none⟩,
  .ins ⟨(.p .mv), [.tmp (nat_lit 47)], (some (nat_lit 4)), none⟩,
  .ins ⟨(.p .mv), [.const (.int .i64 (.ofNat (nat_lit 0)))], (some (nat_lit 5)), none⟩])
 .ret))))))))⟩

def c223 : Code' := .fn ⟨(nat_lit 53), [.tmp (nat_lit 4)],
 (.seq (.region [
  .ins ⟨(.a .box), [.tmp (nat_lit 0)], (some (nat_lit 2)), none⟩,
  .ins ⟨(.p .mv), [.const (.bool false)], (some (nat_lit 4)), none⟩])
 (.seq (.seq (.region [
  .ins ⟨(.p (.fieldAddr (nat_lit 0))), [.tmp (nat_lit 2)], (some (nat_lit 5)), none⟩,
  .ins ⟨(.r (.load false (nat_lit 1))), [.tmp (nat_lit 5)], (some (nat_lit 6)), none⟩])
 (.block (nat_lit 0) (.seq (.region [
  .ins ⟨(.p (.bini .eql)), [.tmp (nat_lit 6), .const (.int .i64 (.ofNat (nat_lit 1)))], (some (nat_lit 8)), none⟩,
  .ins ⟨(.p .mv), [.tmp (nat_lit 8)], (some (nat_lit 7)), none⟩])
 (.cond (.tmp (nat_lit 7)) (.seq (.region [
  .ins ⟨(.p (.fieldAddr (nat_lit 1))), [.tmp (nat_lit 2)], (some (nat_lit 9)), none⟩,
  .ins ⟨(.r (.load false (nat_lit 1))), [.tmp (nat_lit 9)], (some (nat_lit 10)), none⟩,
  .ins ⟨(.p (.bini .and)), [.tmp (nat_lit 10), .const (.int .i64 (.ofNat (nat_lit 32)))], (some (nat_lit 11)), none⟩,
  .ins ⟨(.p (.bini .eql)), [.tmp (nat_lit 11), .const (.int .i64 (.ofNat (nat_lit 0)))], (some (nat_lit 12)), none⟩,
  .ins ⟨(.p .mv), [.tmp (nat_lit 12)], (some (nat_lit 13)), none⟩,
  .ins ⟨(.p .mv), [.tmp (nat_lit 1)], (some (nat_lit 14)), (some ((nat_lit 13), false))⟩,
  .ins ⟨(.p (.bini .geq)), [.tmp (nat_lit 14), .const (.int .i64 (.ofNat (nat_lit 5)))], (some (nat_lit 15)), (some ((nat_lit 13), false))⟩,
  .ins ⟨(.p .pick), [.tmp (nat_lit 13), .const (.bool true), .tmp (nat_lit 15)], (some (nat_lit 16)), none⟩,
  .ins ⟨(.p .mv), [.tmp (nat_lit 16)], (some (nat_lit 4)), none⟩])
 .ret)
 (.seq (.region [
  .ins ⟨(.p (.bini .eql)), [.tmp (nat_lit 6), .const (.int .i64 (.ofNat (nat_lit 2)))], (some (nat_lit 18)), none⟩,
  .ins ⟨(.p .mv), [.tmp (nat_lit 18)], (some (nat_lit 17)), none⟩])
 (.cond (.tmp (nat_lit 17)) (.seq (.region [
  .ins ⟨(.p .mv), [.tmp (nat_lit 1)], (some (nat_lit 19)), none⟩,
  .ins ⟨(.p (.bini .eql)), [.tmp (nat_lit 19), .const (.int .i64 (.ofNat (nat_lit 5)))], (some (nat_lit 20)), none⟩,
  .ins ⟨(.p .mv), [.tmp (nat_lit 20)], (some (nat_lit 4)), none⟩])
 .ret)
 (.seq (.seq (.region [
  .ins ⟨(.p (.bini .eql)), [.tmp (nat_lit 6), .const (.int .i64 (.ofNat (nat_lit 3)))], (some (nat_lit 22)), none⟩,
  .ins ⟨(.p .mv), [.tmp (nat_lit 22)], (some (nat_lit 21)), none⟩])
 (.cond (.tmp (nat_lit 21)) .skip
 (.region [
  .ins ⟨(.p (.bini .eql)), [.tmp (nat_lit 6), .const (.int .i64 (.ofNat (nat_lit 8)))], (some (nat_lit 23)), none⟩,
  .ins ⟨(.p .mv), [.tmp (nat_lit 23)], (some (nat_lit 21)), none⟩])))
 (.cond (.tmp (nat_lit 21)) (.seq (.region [
  .ins ⟨(.p .mv), [.tmp (nat_lit 1)], (some (nat_lit 24)), none⟩,
  .ins ⟨(.p (.bini .eql)), [.tmp (nat_lit 24), .const (.int .i64 (.ofNat (nat_lit 4)))], (some (nat_lit 25)), none⟩,
  .ins ⟨(.p .mv), [.tmp (nat_lit 25)], (some (nat_lit 4)), none⟩])
 .ret)
 (.seq (.region [
  .ins ⟨(.p (.bini .eql)), [.tmp (nat_lit 6), .const (.int .i64 (.ofNat (nat_lit 4)))], (some (nat_lit 27)), none⟩,
  .ins ⟨(.p .mv), [.tmp (nat_lit 27)], (some (nat_lit 26)), none⟩])
 (.cond (.tmp (nat_lit 26)) (.seq (.region [
  .ins ⟨(.p .mv), [.tmp (nat_lit 1)], (some (nat_lit 28)), none⟩,
  .ins ⟨(.p (.bini .rem)), [.tmp (nat_lit 28), .const (.int .i64 (.ofNat (nat_lit 6)))], (some (nat_lit 29)), none⟩,
  .ins ⟨(.p (.bini .eql)), [.tmp (nat_lit 29), .const (.int .i64 (.ofNat (nat_lit 0)))], (some (nat_lit 30)), none⟩,
  .ins ⟨(.p .mv), [.tmp (nat_lit 30)], (some (nat_lit 31)), none⟩,
  .ins ⟨(.p (.fieldAddr (nat_lit 1))), [.tmp (nat_lit 2)], (some (nat_lit 32)), (some ((nat_lit 31), true))⟩,
  .ins ⟨(.r (.load false (nat_lit 1))), [.tmp (nat_lit 32)], (some (nat_lit 33)), (some ((nat_lit 31), true))⟩,
  .ins ⟨(.p (.bini .and)), [.tmp (nat_lit 33), .const (.int .i64 (.ofNat (nat_lit 1)))], (some (nat_lit 34)), (some ((nat_lit 31), true))⟩,
  .ins ⟨(.p (.bini .eql)), [.tmp (nat_lit 34), .const (.int .i64 (.ofNat (nat_lit 0)))], (some (nat_lit 35)), (some ((nat_lit 31), true))⟩,
  .ins ⟨(.p .mv), [.tmp (nat_lit 35)], (some (nat_lit 36)), (some ((nat_lit 31), true))⟩,
  .ins ⟨(.p .mv), [.tmp (nat_lit 1)], (some (nat_lit 37)), (some ((nat_lit 36), false))⟩,
  .ins ⟨(.p (.bini .eql)), [.tmp (nat_lit 37), .const (.int .i64 (.ofNat (nat_lit 0)))], (some (nat_lit 38)), (some ((nat_lit 36), false))⟩,
  .ins ⟨(.p .pick), [.tmp (nat_lit 36), .const (.bool true), .tmp (nat_lit 38)], (some (nat_lit 39)), (some ((nat_lit 31), true))⟩,
  .ins ⟨(.p .pick), [.tmp (nat_lit 31), .tmp (nat_lit 39), .const (.bool false)], (some (nat_lit 40)), none⟩,
  .ins ⟨(.p .mv), [.tmp (nat_lit 40)], (some (nat_lit 4)), none⟩])
 .ret)
 (.seq (.region [
  .ins ⟨(.p (.bini .eql)), [.tmp (nat_lit 6), .const (.int .i64 (.ofNat (nat_lit 5)))], (some (nat_lit 42)), none⟩,
  .ins ⟨(.p .mv), [.tmp (nat_lit 42)], (some (nat_lit 41)), none⟩])
 (.cond (.tmp (nat_lit 41)) (.seq (.region [
  .ins ⟨(.p .mv), [.tmp (nat_lit 1)], (some (nat_lit 43)), none⟩,
  .ins ⟨(.p (.bini .geq)), [.tmp (nat_lit 43), .const (.int .i64 (.ofNat (nat_lit 4)))], (some (nat_lit 44)), none⟩,
  .ins ⟨(.p .mv), [.tmp (nat_lit 44)], (some (nat_lit 4)), none⟩])
 .ret)
 (.seq (.region [
  .ins ⟨(.p (.bini .eql)), [.tmp (nat_lit 6), .const (.int .i64 (.ofNat (nat_lit 6)))], (some (nat_lit 46)), none⟩,
  .ins ⟨(.p .mv), [.tmp (nat_lit 46)], (some (nat_lit 45)), none⟩])
 (.cond (.tmp (nat_lit 45)) (.seq (.region [
  .ins ⟨(.p .mv), [.tmp (nat_lit 1)], (some (nat_lit 47)), none⟩,
  .ins ⟨(.p (.bini .eql)), [.tmp (nat_lit 47), .const (.int .i64 (.ofNat (nat_lit 8)))], (some (nat_lit 48)), none⟩,
  .ins ⟨(.p .mv), [.tmp (nat_lit 48)], (some (nat_lit 4)), none⟩])
 .ret)
 (.seq (.region [
  .ins ⟨(.p (.bini .eql)), [.tmp (nat_lit 6), .const (.int .i64 (.ofNat (nat_lit 7)))], (some (nat_lit 50)), none⟩,
  .ins ⟨(.p .mv), [.tmp (nat_lit 50)], (some (nat_lit 49)), none⟩])
 (.cond (.tmp (nat_lit 49)) (.seq (.region [
  .ins ⟨(.p .mv), [.tmp (nat_lit 1)], (some (nat_lit 51)), none⟩,
  .ins ⟨(.p (.bini .geq)), [.tmp (nat_lit 51), .const (.int .i64 (.ofNat (nat_lit 8)))], (some (nat_lit 52)), none⟩,
  .ins ⟨(.p .mv), [.tmp (nat_lit 52)], (some (nat_lit 4)), none⟩])
 .ret)
 .skip))))))))))))))))
 (.seq (.region [
  .ins ⟨(.p .mv), [.const (.bool true)], (some (nat_lit 4)), none⟩])
 .ret)))⟩

def c225 : Code' := .fn ⟨(nat_lit 19), [.tmp (nat_lit 2)],
 (.seq (.region [
  .ins ⟨(.p .mv), [.const (.int .i64 (.ofNat (nat_lit 0)))], (some (nat_lit 2)), none⟩])
 (.seq (.region [
  .ins ⟨(.p .mv), [.const (.int .i64 (.ofNat (nat_lit 0)))], (some (nat_lit 3)), none⟩])
 (.seq (.seq (.region [
  .ins ⟨(.p .mv), [.tmp (nat_lit 0)], (some (nat_lit 6)), none⟩,
  .ins ⟨(.p .lenSl), [.tmp (nat_lit 6)], (some (nat_lit 7)), none⟩,
  .ins ⟨(.p .mv), [.const (.int .i64 (.ofNat (nat_lit 0)))], (some (nat_lit 8)), none⟩])
 (.block (nat_lit 0) (.loop (.seq (.region [
  .ins ⟨(.p (.bini .lss)), [.tmp (nat_lit 8), .tmp (nat_lit 7)], (some (nat_lit 9)), none⟩])
 (.seq (.cond (.tmp (nat_lit 9)) .skip
 (.exit (nat_lit 0)))
 (.seq (.block (nat_lit 1) (.seq (.region [
  .ins ⟨(.p (.indexAddr (nat_lit 1))), [.tmp (nat_lit 6), .tmp (nat_lit 8)], (some (nat_lit 10)), none⟩,
  .ins ⟨(.r (.load false (nat_lit 1))), [.tmp (nat_lit 10)], (some (nat_lit 11)), none⟩,
  .ins ⟨(.p .mv), [.tmp (nat_lit 11)], (some (nat_lit 5)), none⟩])
 (.region [
  .ins ⟨(.p .mv), [.tmp (nat_lit 3)], (some (nat_lit 12)), none⟩,
  .ins ⟨(.p (.bini .shl)), [.tmp (nat_lit 12), .const (.int .u64 (.ofNat (nat_lit 8)))], (some (nat_lit 13)), none⟩,
  .ins ⟨(.p .mv), [.tmp (nat_lit 5)], (some (nat_lit 14)), none⟩,
  .ins ⟨(.p (.convInt .i64)), [.tmp (nat_lit 14)], (some (nat_lit 15)), none⟩,
  .ins ⟨(.p (.bini .or)), [.tmp (nat_lit 13), .tmp (nat_lit 15)], (some (nat_lit 16)), none⟩,
  .ins ⟨(.p .mv), [.tmp (nat_lit 16)], (some (nat_lit 3)), none⟩])))
 (.region [
  .ins ⟨(.p (.bini .add)), [.tmp (nat_lit 8), .const (.int .i64 (.ofNat (nat_lit 1)))], (some (nat_lit 17)), none⟩,
  .ins ⟨(.p .mv), [.tmp (nat_lit 17)], (some (nat_lit 8)), none⟩])))))))
 (.seq (.region [
  .ins ⟨(.p .mv), [.tmp (nat_lit 3)], (some (nat_lit 18)), none⟩,
  .ins ⟨(.p .mv), [.tmp (nat_lit 18)], (some (nat_lit 2)), none⟩])
 .ret))))⟩

def c227 : Code' := .fn ⟨(nat_lit 45), [.tmp (nat_lit 10), .tmp (nat_lit 11), .tmp (nat_lit 12)],
 (.seq (.region [
  .ins ⟨(.p .mv), [.const (.slice none (nat_lit 0) (nat_lit 0) (nat_lit 0))], (some (nat_lit 10)), none⟩,
  .ins ⟨(.p .mv), [.const (.bool false)], (some (nat_lit 11)), none⟩,
  .ins ⟨(.p .mv), [.const (.int .i64 (.ofNat (nat_lit 0)))], (some (nat_lit 12)), none⟩])
 (.seq (.block (nat_lit 0) (.seq (.region [
  .ins ⟨(.p .mv), [.tmp (nat_lit 0)], (some (nat_lit 14)), none⟩,
  .ins ⟨(.p (.eqnil .ptr false)), [.tmp (nat_lit 14), .const (.ptr none)], (some (nat_lit 15)), none⟩,
  .ins ⟨(.p .mv), [.tmp (nat_lit 15)], (some (nat_lit 16)), none⟩,
  .ins ⟨(.p .mv), [.tmp (nat_lit 0)], (some (nat_lit 17)), (some ((nat_lit 16), false))⟩,
  .ins ⟨(.p .nilck), [.tmp (nat_lit 17)], (some (nat_lit 18)), (some ((nat_lit 16), false))⟩,
  .ins ⟨(.p (.fieldAddr (nat_lit 1))), [.tmp (nat_lit 18)], (some (nat_lit 19)), (some ((nat_lit 16), false))⟩,
  .ins ⟨(.r (.load false (nat_lit 1))), [.tmp (nat_lit 19)], (some (nat_lit 20)), (some ((nat_lit 16), false))⟩,
  .ins ⟨(.p .pick), [.tmp (nat_lit 16), .const (.bool true), .tmp (nat_lit 20)], (some (nat_lit 21)), none⟩,
  .ins ⟨(.p .mv), [.tmp (nat_lit 21)], (some (nat_lit 13)), none⟩])
 (.cond (.tmp (nat_lit 13)) (.seq (.region [
  .ins ⟨(.p .mv), [.const (.slice none (nat_lit 0) (nat_lit 0) (nat_lit 0))], (some (nat_lit 10)), none⟩,
  .ins ⟨(.p .mv), [.const (.bool false)], (some (nat_lit 11)), none⟩,
  .ins ⟨(.p .mv), [.const (.int .i64 (.ofNat (nat_lit 1)))], (some (nat_lit 12)), none⟩])
 .ret)
 (.seq (.region [
  .ins ⟨(.p .mv), [.tmp (nat_lit 3)], (some (nat_lit 23)), none⟩,
  .ins ⟨(.p .lenSl), [.tmp (nat_lit 23)], (some (nat_lit 24)), none⟩,
  .ins ⟨(.p (.bini .gtr)), [.tmp (nat_lit 24), .const (.int .i64 (.ofNat (nat_lit 65536)))], (some (nat_lit 25)), none⟩,
  .ins ⟨(.p .mv), [.tmp (nat_lit 25)], (some (nat_lit 22)), none⟩])
 (.cond (.tmp (nat_lit 22)) (.seq (.region [
  .ins ⟨(.p .mv), [.const (.slice none (nat_lit 0) (nat_lit 0) (nat_lit 0))], (some (nat_lit 10)), none⟩,
  .ins ⟨(.p .mv), [.const (.bool false)], (some (nat_lit 11)), none⟩,
  .ins ⟨(.p .mv), [.const (.int .i64 (.ofNat (nat_lit 11)))], (some (nat_lit 12)), none⟩])
 .ret)
 .skip)))))
 (.seq (.region [
  .ins ⟨(.p .mv), [.tmp (nat_lit 0)], (some (nat_lit 26)), none⟩,
  .ins ⟨(.p .mv), [.tmp (nat_lit 2)], (some (nat_lit 27)), none⟩,
  .ins ⟨(.p .nilck), [.tmp (nat_lit 26)], (some (nat_lit 28)), none⟩,
  .ins ⟨(.p (.fieldAddr (nat_lit 2))), [.tmp (nat_lit 28)], (some (nat_lit 29)), none⟩,
  .ins ⟨(.l (.store (nat_lit 1))), [.tmp (nat_lit 29), .tmp (nat_lit 27)], none, none⟩])
 (.seq (.seq (.region [
  .ins ⟨(.p .mv), [.tmp (nat_lit 4)], (some (nat_lit 30)), none⟩])
 (.cond (.tmp (nat_lit 30)) (.seq (.region [
  .ins ⟨(.p .mv), [.tmp (nat_lit 3)], (some (nat_lit 31)), none⟩,
  .ins ⟨(.c .value), [.const (.func (.func (nat_lit 45)) [] []), .tmp (nat_lit 31)], (some (nat_lit 32)), none⟩,
  .ins ⟨(.p .mv), [.tmp (nat_lit 32)], (some (nat_lit 10)), none⟩,
  .ins ⟨(.p .mv), [.const (.bool true)], (some (nat_lit 11)), none⟩,
  .ins ⟨(.p .mv), [.const (.int .i64 (.ofNat (nat_lit 0)))], (some (nat_lit 12)), none⟩])
 .ret)
 .skip))
 (.seq (.region [
  .ins ⟨(.p .mv), [.tmp (nat_lit 0)], (some (nat_lit 33)), none⟩,
  .ins ⟨(.p .mv), [.tmp (nat_lit 0)], (some (nat_lit 34)), none⟩,
  .ins ⟨(.p .mv), [.tmp (nat_lit 0)], (some (nat_lit 35)), none⟩,
  .ins ⟨(.p .mv), [.tmp (nat_lit 1)], (some (nat_lit 36)), none⟩,
  .ins ⟨(.p .mv), [.tmp (nat_lit 3)], (some (nat_lit 37)), none⟩,
  .ins ⟨(.c .value), [.const (.func (.func (nat_lit 45)) [] []), .tmp (nat_lit 37)], (some (nat_lit 38)), none⟩,
  .ins ⟨(.p .nilck), [.tmp (nat_lit 33)], (some (nat_lit 39)), none⟩,
  .ins ⟨(.p (.fieldAddr (nat_lit 0))), [.tmp (nat_lit 39)], (some (nat_lit 40)), none⟩,
  .ins ⟨(.l (.store (nat_lit 1))), [.tmp (nat_lit 40), .tmp (nat_lit 36)], none, none⟩,
  .ins ⟨(.p .nilck), [.tmp (nat_lit 34)], (some (nat_lit 41)), none⟩,
  .ins ⟨(.p (.fieldAddr (nat_lit 1))), [.tmp (nat_lit 41)], (some (nat_lit 42)), none⟩,
  .ins ⟨(.l (.store (nat_lit 1))), [.tmp (nat_lit 42), .const (.bool true)], none, none⟩,
  .ins ⟨(.p .nilck), [.tmp (nat_lit 35)], (some (nat_lit 43)), none⟩,
  .ins ⟨(.p (.fieldAddr (nat_lit 3))), [.tmp (nat_lit 43)], (some (nat_lit 44)), none⟩,
  .ins ⟨(.l (.store (nat_lit 1))), [.tmp (nat_lit 44), .tmp (nat_lit 38)], none, none⟩])
 (.seq (.region [
  .ins ⟨(.p .mv), [.const (.slice none (nat_lit 0) (nat_lit 0) (nat_lit 0))], (some (nat_lit 10)), none⟩,
  .ins ⟨(.p .mv), [.const (.bool false)], (some (nat_lit 11)), none⟩,
  .ins ⟨(.p .mv), [.const (.int .i64 (.ofNat (nat_lit 0)))], (some (nat_lit 12)), none⟩])
 .ret))))))⟩

def c229 : Code' := .fn ⟨(nat_lit 44), [.tmp (nat_lit 6), .tmp (nat_lit 7), .tmp (nat_lit 8)],
 (.seq (.region [
  .ins ⟨(.p .mv), [.const (.slice none (nat_lit 0) (nat_lit 0) (nat_lit 0))], (some (nat_lit 6)), none⟩,
  .ins ⟨(.p .mv), [.const (.bool false)], (some (nat_lit 7)), none⟩,
  .ins ⟨(.p .mv), [.const (.int .i64 (.ofNat (nat_lit 0)))], (some (nat_lit 8)), none⟩])
 (.seq (.block (nat_lit 0) (.seq (.region [
  .ins ⟨(.p .mv), [.tmp (nat_lit 0)], (some (nat_lit 12)), none⟩,
  .ins ⟨(.p (.eqnil .ptr false)), [.tmp (nat_lit 12), .const (.ptr none)], (some (nat_lit 13)), none⟩,
  .ins ⟨(.p .mv), [.tmp (nat_lit 13)], (some (nat_lit 14)), none⟩,
  .ins ⟨(.p .mv), [.tmp (nat_lit 2)], (some (nat_lit 15)), (some ((nat_lit 14), false))⟩,
  .ins ⟨(.p (.bini .lss)), [.tmp (nat_lit 15), .const (.int .i64 (.ofNat (nat_lit 0)))], (some (nat_lit 16)), (some ((nat_lit 14), false))⟩,
  .ins ⟨(.p .pick), [.tmp (nat_lit 14), .const (.bool true), .tmp (nat_lit 16)], (some (nat_lit 17)), none⟩,
  .ins ⟨(.p .mv), [.tmp (nat_lit 17)], (some (nat_lit 11)), none⟩])
 (.cond (.tmp (nat_lit 11)) (.seq (.region [
  .ins ⟨(.p .mv), [.const (.slice none (nat_lit 0) (nat_lit 0) (nat_lit 0))], (some (nat_lit 6)), none⟩,
  .ins ⟨(.p .mv), [.const (.bool false)], (some (nat_lit 7)), none⟩,
  .ins ⟨(.p .mv), [.const (.int .i64 (.ofNat (nat_lit 1)))], (some (nat_lit 8)), none⟩])
 .ret)
 (.seq (.region [
  .ins ⟨(.p .mv), [.tmp (nat_lit 0)], (some (nat_lit 19)), none⟩,
  .ins ⟨(.p .nilck), [.tmp (nat_lit 19)], (some (nat_lit 20)), none⟩,
  .ins ⟨(.p (.fieldAddr (nat_lit 3))), [.tmp (nat_lit 20)], (some (nat_lit 21)), none⟩,
  .ins ⟨(.r (.load false (nat_lit 1))), [.tmp (nat_lit 21)], (some (nat_lit 22)), none⟩,
  .ins ⟨(.p .mv), [.tmp (nat_lit 22)], (some (nat_lit 18)), none⟩])
 (.cond (.tmp (nat_lit 18)) (.seq (.region [
  .ins ⟨(.p .mv), [.const (.slice none (nat_lit 0) (nat_lit 0) (nat_lit 0))], (some (nat_lit 6)), none⟩,
  .ins ⟨(.p .mv), [.const (.bool false)], (some (nat_lit 7)), none⟩,
  .ins ⟨(.p .mv), [.const (.int .i64 (.ofNat (nat_lit 4)))], (some (nat_lit 8)), none⟩])
 .ret)
 .skip)))))
 (.seq (.region [
  .ins ⟨(.p .mv), [.tmp (nat_lit 0)], (some (nat_lit 23)), none⟩,
  .ins ⟨(.p .mv), [.tmp (nat_lit 1)], (some (nat_lit 24)), none⟩,
  .ins ⟨(.p .mv), [.tmp (nat_lit 2)], (some (nat_lit 25)), none⟩,
  .ins ⟨(.p (.build [(.ptr none), (.slice none (nat_lit 0) (nat_lit 0) (nat_lit 0)), (.int .i64 (.ofNat (nat_lit 0))), (.bool false), (.int .i64 (.ofNat (nat_lit 0))), (.int .i64 (.ofNat (nat_lit 0))), (.slice none (nat_lit 0) (nat_lit 0) (nat_lit 0)), (.bool false)] [((nat_lit 0), (nat_lit 1)), ((nat_lit 1), (nat_lit 1)), ((nat_lit 4), (nat_lit 1))])), [.tmp (nat_lit 23), .tmp (nat_lit 24), .tmp (nat_lit 25)], (some (nat_lit 26)), none⟩,
  .ins ⟨(.a .box), [.tmp (nat_lit 26)], (some (nat_lit 27)), none⟩,
  .ins ⟨(.p .mv), [.tmp (nat_lit 27)], (some (nat_lit 9)), none⟩])
 (.seq (.seq (.region [
  .ins ⟨(.p .mv), [.tmp (nat_lit 9)], (some (nat_lit 28)), none⟩,
  .ins ⟨(.c .value), [.const (.func (.func (nat_lit 283)) [] []), .tmp (nat_lit 28)], (some (nat_lit 29)), none⟩,
  .ins ⟨(.p .mv), [.tmp (nat_lit 29)], (some (nat_lit 10)), none⟩])
 (.seq (.region [
  .ins ⟨(.p .mv), [.tmp (nat_lit 10)], (some (nat_lit 30)), none⟩,
  .ins ⟨(.p (.bini .neq)), [.tmp (nat_lit 30), .const (.int .i64 (.ofNat (nat_lit 0)))], (some (nat_lit 31)), none⟩])
 (.cond (.tmp (nat_lit 31)) (.seq (.region [
  .ins ⟨(.p .mv), [.tmp (nat_lit 0)], (some (nat_lit 32)), none⟩,
  .ins ⟨(.p .nilck), [.tmp (nat_lit 32)], (some (nat_lit 33)), none⟩,
  .ins ⟨(.p (.fieldAddr (nat_lit 3))), [.tmp (nat_lit 33)], (some (nat_lit 34)), none⟩,
  .ins ⟨(.l (.store (nat_lit 1))), [.tmp (nat_lit 34), .const (.bool true)], none, none⟩])
 (.seq (.region [
  .ins ⟨(.p .mv), [.tmp (nat_lit 10)], (some (nat_lit 35)), none⟩,
  .ins ⟨(.p .mv), [.const (.slice none (nat_lit 0) (nat_lit 0) (nat_lit 0))], (some (nat_lit 6)), none⟩,
  .ins ⟨(.p .mv), [.const (.bool false)], (some (nat_lit 7)), none⟩,
  .ins ⟨(.p .mv), [.tmp (nat_lit 35)], (some (nat_lit 8)), none⟩])
 .ret))
 .skip)))
 (.seq (.region [
  .ins ⟨(.p .mv), [.tmp (nat_lit 9)], (some (nat_lit 36)), none⟩,
  .ins ⟨(.p .nilck), [.tmp (nat_lit 36)], (some (nat_lit 37)), none⟩,
  .ins ⟨(.p (.fieldAddr (nat_lit 6))), [.tmp (nat_lit 37)], (some (nat_lit 38)), none⟩,
  .ins ⟨(.r (.load false (nat_lit 1))), [.tmp (nat_lit 38)], (some (nat_lit 39)), none⟩,
  .ins ⟨(.p .mv), [.tmp (nat_lit 9)], (some (nat_lit 40)), none⟩,
  .ins ⟨(.p .nilck), [.tmp (nat_lit 40)], (some (nat_lit 41)), none⟩,
  .ins ⟨(.p (.fieldAddr (nat_lit 7))), [.tmp (nat_lit 41)], (some (nat_lit 42)), none⟩,
  .ins ⟨(.r (.load false (nat_lit 1))), [.tmp (nat_lit 42)], (some (nat_lit 43)), none⟩,
  .ins ⟨(.p .mv), [.tmp (nat_lit 39)], (some (nat_lit 6)), none⟩,
  .ins ⟨(.p .mv), [.tmp (nat_lit 43)], (some (nat_lit 7)), none⟩,
  .ins ⟨(.p .mv), [.const (.int .i64 (.ofNat (nat_lit 0)))], (some (nat_lit 8)), none⟩])
 .ret)))))⟩

def c230 : Code' := .fn ⟨(nat_lit 85), [],
 (.block (nat_lit 0) (.seq (.region [
  .ins ⟨(.p .mv), [.tmp (nat_lit 0)], (some (nat_lit 40)), none⟩,
  .ins ⟨(.p .nilck), [.tmp (nat_lit 40)], (some (nat_lit 41)), none⟩,
  .ins ⟨(.p (.fieldAddr (nat_lit 21))), [.tmp (nat_lit 41)], (some (nat_lit 42)), none⟩,
  .ins ⟨(.r (.load false (nat_lit 1))), [.tmp (nat_lit 42)], (some (nat_lit 43)), none⟩,
  .ins ⟨(.p (.bini .geq)), [.tmp (nat_lit 43), .const (.int .i64 (.ofNat (nat_lit 0)))], (some (nat_lit 44)), none⟩,
  .ins ⟨(.p .mv), [.tmp (nat_lit 44)], (some (nat_lit 45)), none⟩,
  .ins ⟨(.p .mv), [.tmp (nat_lit 0)], (some (nat_lit 46)), (some ((nat_lit 45), true))⟩,
  .ins ⟨(.p .nilck), [.tmp (nat_lit 46)], (some (nat_lit 47)), (some ((nat_lit 45), true))⟩,
  .ins ⟨(.p (.fieldAddr (nat_lit 21))), [.tmp (nat_lit 47)], (some (nat_lit 48)), (some ((nat_lit 45), true))⟩,
  .ins ⟨(.r (.load false (nat_lit 1))), [.tmp (nat_lit 48)], (some (nat_lit 49)), (some ((nat_lit 45), true))⟩,
  .ins ⟨(.p .mv), [.tmp (nat_lit 1)], (some (nat_lit 50)), (some ((nat_lit 45), true))⟩,
  .ins ⟨(.p (.bini .lss)), [.tmp (nat_lit 49), .tmp (nat_lit 50)], (some (nat_lit 51)), (some ((nat_lit 45), true))⟩,
  .ins ⟨(.p .pick), [.tmp (nat_lit 45), .tmp (nat_lit 51), .const (.bool false)], (some (nat_lit 52)), none⟩,
  .ins ⟨(.p .mv), [.tmp (nat_lit 52)], (some (nat_lit 39)), none⟩])
 (.cond (.tmp (nat_lit 39)) (.region [
  .ins ⟨(.p .mv), [.tmp (nat_lit 0)], (some (nat_lit 53)), none⟩,
  .ins ⟨(.p .nilck), [.tmp (nat_lit 53)], (some (nat_lit 54)), none⟩,
  .ins ⟨(.p (.fieldAddr (nat_lit 13))), [.tmp (nat_lit 54)], (some (nat_lit 55)), none⟩,
  .ins ⟨(.r (.load false (nat_lit 1))), [.tmp (nat_lit 55)], (some (nat_lit 56)), none⟩,
  .ins ⟨(.p .mv), [.tmp (nat_lit 1)], (some (nat_lit 57)), none⟩,
  .ins ⟨(.c .value), [.const (.func (.func (nat_lit 284)) [] []), .tmp (nat_lit 56), .tmp (nat_lit 57), .const (.int .i64 (.ofNat (nat_lit 3)))], (some (nat_lit 58)), none⟩])
 (.seq (.region [
  .ins ⟨(.p .mv), [.tmp (nat_lit 0)], (some (nat_lit 60)), none⟩,
  .ins ⟨(.p .nilck), [.tmp (nat_lit 60)], (some (nat_lit 61)), none⟩,
  .ins ⟨(.p (.fieldAddr (nat_lit 13))), [.tmp (nat_lit 61)], (some (nat_lit 62)), none⟩,
  .ins ⟨(.r (.load false (nat_lit 1))), [.tmp (nat_lit 62)], (some (nat_lit 63)), none⟩,
  .ins ⟨(.p .mv), [.tmp (nat_lit 0)], (some (nat_lit 65)), none⟩,
  .ins ⟨(.p .nilck), [.tmp (nat_lit 65)], (some (nat_lit 66)), none⟩,
  .ins ⟨(.p (.fieldAddr (nat_lit 1))), [.tmp (nat_lit 66)], (some (nat_lit 67)), none⟩,
  .ins ⟨(.r (.load false (nat_lit 1))), [.tmp (nat_lit 67)], (some (nat_lit 68)), none⟩,
  .ins ⟨(.c .value), [.const (.func (.func (nat_lit 125)) [] []), .tmp (nat_lit 63)], (some (nat_lit 64)), none⟩,
  .again ⟨(.r (.load false (nat_lit 1))), [.tmp (nat_lit 67)], (some (nat_lit 68)), none⟩,
  .ins ⟨(.c .value), [.const (.func (.func (nat_lit 171)) [] []), .tmp (nat_lit 68)], (some (nat_lit 69)), none⟩,
  .ins ⟨(.p (.field (nat_lit 1) (nat_lit 1) false)), [.tmp (nat_lit 69)], (some (nat_lit 70)), none⟩,
  .ins ⟨(.p (.bini .geq)), [.tmp (nat_lit 64), .tmp (nat_lit 70)], (some (nat_lit 71)), none⟩,
  .ins ⟨(.p .mv), [.tmp (nat_lit 71)], (some (nat_lit 72)), none⟩,
  .ins ⟨(.p .mv), [.tmp (nat_lit 3)], (some (nat_lit 73)), (some ((nat_lit 72), false))⟩,
  .ins ⟨(.p .pick), [.tmp (nat_lit 72), .const (.bool true), .tmp (nat_lit 73)], (some (nat_lit 74)), none⟩,
  .ins ⟨(.p .mv), [.tmp (nat_lit 74)], (some (nat_lit 59)), none⟩])
 (.cond (.tmp (nat_lit 59)) (.region [
  .ins ⟨(.p .mv), [.tmp (nat_lit 0)], (some (nat_lit 75)), none⟩,
  .ins ⟨(.p .mv), [.tmp (nat_lit 1)], (some (nat_lit 76)), none⟩,
  .ins ⟨(.c .value), [.const (.func (.func (nat_lit 285)) [] []), .tmp (nat_lit 75), .tmp (nat_lit 76), .const (.int .i64 (.ofNat (nat_lit 7)))], (some (nat_lit 77)), none⟩])
 (.seq (.region [
  .ins ⟨(.p .mv), [.tmp (nat_lit 2)], (some (nat_lit 79)), none⟩,
  .ins ⟨(.c .value), [.const (.func (.func (nat_lit 107)) [] []), .tmp (nat_lit 79)], (some (nat_lit 80)), none⟩,
  .ins ⟨(.p (.bini .neq)), [.tmp (nat_lit 80), .const (.int .i64 (.ofNat (nat_lit 0)))], (some (nat_lit 81)), none⟩,
  .ins ⟨(.p .mv), [.tmp (nat_lit 81)], (some (nat_lit 78)), none⟩])
 (.cond (.tmp (nat_lit 78)) (.region [
  .ins ⟨(.p .mv), [.tmp (nat_lit 0)], (some (nat_lit 82)), none⟩,
  .ins ⟨(.p .mv), [.tmp (nat_lit 1)], (some (nat_lit 83)), none⟩,
  .ins ⟨(.c .value), [.const (.func (.func (nat_lit 285)) [] []), .tmp (nat_lit 82), .tmp (nat_lit 83), .const (.int .i64 (.ofNat (nat_lit 1)))], (some (nat_lit 84)), none⟩])
 (.seq (.region [
  .ins ⟨(.p .mv), [.tmp (nat_lit 0)], (some (nat_lit 11)), none⟩,
  .ins ⟨(.c .value), [.const (.func (.func (nat_lit 110)) [] []), .tmp (nat_lit 11)], (some (nat_lit 12)), none⟩,
  .ins ⟨(.p .mv), [.tmp (nat_lit 12)], (some (nat_lit 10)), none⟩])
 (.seq (.region [
  .ins ⟨(.p .mv), [.tmp (nat_lit 10)], (some (nat_lit 13)), none⟩,
  .ins ⟨(.p .nilck), [.tmp (nat_lit 13)], (some (nat_lit 14)), none⟩,
  .ins ⟨(.p (.fieldAddr (nat_lit 3))), [.tmp (nat_lit 14)], (some (nat_lit 15)), none⟩,
  .ins ⟨(.l (.store (nat_lit 1))), [.tmp (nat_lit 15), .const (.bool true)], none, none⟩])
 (.seq (.region [
  .ins ⟨(.p .mv), [.tmp (nat_lit 10)], (some (nat_lit 16)), none⟩,
  .ins ⟨(.p .nilck), [.tmp (nat_lit 16)], (some (nat_lit 17)), none⟩,
  .ins ⟨(.p (.fieldAddr (nat_lit 0))), [.tmp (nat_lit 17)], (some (nat_lit 18)), none⟩,
  .ins ⟨(.r (.load false (nat_lit 1))), [.tmp (nat_lit 18)], (some (nat_lit 19)), none⟩,
  .ins ⟨(.p .mv), [.tmp (nat_lit 4)], (some (nat_lit 20)), none⟩,
  .ins ⟨(.c .value), [.const (.func (.func (nat_lit 146)) [] []), .tmp (nat_lit 19), .const (.int .i64 (.ofNat (nat_lit 1))), .tmp (nat_lit 20)], (some (nat_lit 21)), none⟩])
 (.seq (.region [
  .ins ⟨(.p .mv), [.tmp (nat_lit 0)], (some (nat_lit 22)), none⟩,
  .ins ⟨(.p .nilck), [.tmp (nat_lit 22)], (some (nat_lit 23)), none⟩,
  .ins ⟨(.p (.fieldAddr (nat_lit 13))), [.tmp (nat_lit 23)], (some (nat_lit 24)), none⟩,
  .ins ⟨(.r (.load false (nat_lit 1))), [.tmp (nat_lit 24)], (some (nat_lit 25)), none⟩,
  .ins ⟨(.p .mv), [.tmp (nat_lit 1)], (some (nat_lit 26)), none⟩,
  .ins ⟨(.p .mv), [.tmp (nat_lit 10)], (some (nat_lit 27)), none⟩,
  .ins ⟨(.c .value), [.const (.func (.func (nat_lit 111)) [] []), .tmp (nat_lit 25), .tmp (nat_lit 26), .tmp (nat_lit 27)], (some (nat_lit 28)), none⟩])
 (.seq (.region [
  .ins ⟨(.p .mv), [.tmp (nat_lit 0)], (some (nat_lit 29)), none⟩,
  .ins ⟨(.p .mv), [.tmp (nat_lit 1)], (some (nat_lit 30)), none⟩,
  .ins ⟨(.p .nilck), [.tmp (nat_lit 29)], (some (nat_lit 31)), none⟩,
  .ins ⟨(.p (.fieldAddr (nat_lit 20))), [.tmp (nat_lit 31)], (some (nat_lit 32)), none⟩,
  .ins ⟨(.l (.store (nat_lit 1))), [.tmp (nat_lit 32), .tmp (nat_lit 30)], none, none⟩])
 (.region [
  .ins ⟨(.p .mv), [.tmp (nat_lit 0)], (some (nat_lit 33)), none⟩,
  .ins ⟨(.p .mv), [.tmp (nat_lit 1)], (some (nat_lit 34)), none⟩,
  .ins ⟨(.p .mv), [.tmp (nat_lit 2)], (some (nat_lit 35)), none⟩,
  .ins ⟨(.p .mv), [.tmp (nat_lit 4)], (some (nat_lit 36)), none⟩,
  .ins ⟨(.p (.build [(.int .i64 (.ofNat (nat_lit 0))), (.int .i64 (.ofNat (nat_lit 0))), (.slice none (nat_lit 0) (nat_lit 0) (nat_lit 0)), (.slice none (nat_lit 0) (nat_lit 0) (nat_lit 0)), (.bool false), (.int .i64 (.ofNat (nat_lit 0))), (.int .i64 (.ofNat (nat_lit 0)))] [((nat_lit 0), (nat_lit 1)), ((nat_lit 1), (nat_lit 1)), ((nat_lit 2), (nat_lit 1)), ((nat_lit 4), (nat_lit 1))])), [.const (.int .i64 (.ofNat (nat_lit 1))), .tmp (nat_lit 34), .tmp (nat_lit 35), .tmp (nat_lit 36)], (some (nat_lit 37)), none⟩,
  .ins ⟨(.c .value), [.const (.func (.func (nat_lit 152)) [] []), .tmp (nat_lit 33), .tmp (nat_lit 37)], (some (nat_lit 38)), none⟩])))))))))))))⟩

def c231 : Code' := .fn ⟨(nat_lit 11), [.tmp (nat_lit 2)],
 (.seq (.region [
  .ins ⟨(.p .mv), [.const (.bool false)], (some (nat_lit 2)), none⟩])
 (.seq (.region [
  .ins ⟨(.p .mv), [.tmp (nat_lit 0)], (some (nat_lit 3)), none⟩,
  .ins ⟨(.p (.eqnil .ptr true)), [.tmp (nat_lit 3), .const (.ptr none)], (some (nat_lit 4)), none⟩,
  .ins ⟨(.p .mv), [.tmp (nat_lit 4)], (some (nat_lit 5)), none⟩,
  .ins ⟨(.p .mv), [.tmp (nat_lit 0)], (some (nat_lit 6)), (some ((nat_lit 5), true))⟩,
  .ins ⟨(.p .nilck), [.tmp (nat_lit 6)], (some (nat_lit 7)), (some ((nat_lit 5), true))⟩,
  .ins ⟨(.p (.fieldAddr (nat_lit 2))), [.tmp (nat_lit 7)], (some (nat_lit 8)), (some ((nat_lit 5), true))⟩,
  .ins ⟨(.r (.load false (nat_lit 1))), [.tmp (nat_lit 8)], (some (nat_lit 9)), (some ((nat_lit 5), true))⟩,
  .ins ⟨(.p .pick), [.tmp (nat_lit 5), .tmp (nat_lit 9), .const (.bool false)], (some (nat_lit 10)), none⟩,
  .ins ⟨(.p .mv), [.tmp (nat_lit 10)], (some (nat_lit 2)), none⟩])
 .ret))⟩

def c232 : Code' := .fn ⟨(nat_lit 86), [],
 (.seq (.region [
  .ins ⟨(.p .mv), [.tmp (nat_lit 0)], (some (nat_lit 15)), none⟩,
  .ins ⟨(.p .nilck), [.tmp (nat_lit 15)], (some (nat_lit 16)), none⟩,
  .ins ⟨(.p (.fieldAddr (nat_lit 13))), [.tmp (nat_lit 16)], (some (nat_lit 17)), none⟩,
  .ins ⟨(.r (.load false (nat_lit 1))), [.tmp (nat_lit 17)], (some (nat_lit 18)), none⟩,
  .ins ⟨(.p .mv), [.tmp (nat_lit 1)], (some (nat_lit 19)), none⟩,
  .ins ⟨(.c .value), [.const (.func (.func (nat_lit 183)) [] []), .tmp (nat_lit 18), .tmp (nat_lit 19)], (some (nat_lit 20)), none⟩,
  .ins ⟨(.p .mv), [.tmp (nat_lit 20)], (some (nat_lit 14)), none⟩,
  .ins ⟨(.p (.extract (nat_lit 0))), [.tmp (nat_lit 14)], (some (nat_lit 21)), none⟩,
  .ins ⟨(.p (.extract (nat_lit 1))), [.tmp (nat_lit 14)], (some (nat_lit 22)), none⟩,
  .ins ⟨(.p .mv), [.tmp (nat_lit 21)], (some (nat_lit 10)), none⟩,
  .ins ⟨(.p .mv), [.tmp (nat_lit 22)], (some (nat_lit 11)), none⟩])
 (.seq (.seq (.region [
  .ins ⟨(.p .mv), [.tmp (nat_lit 11)], (some (nat_lit 23)), none⟩,
  .ins ⟨(.p (.un .not)), [.tmp (nat_lit 23)], (some (nat_lit 24)), none⟩])
 (.cond (.tmp (nat_lit 24)) (.seq (.region [
  .ins ⟨(.p .mv), [.tmp (nat_lit 0)], (some (nat_lit 25)), none⟩,
  .ins ⟨(.p .mv), [.tmp (nat_lit 1)], (some (nat_lit 26)), none⟩,
  .ins ⟨(.c .value), [.const (.func (.func (nat_lit 235)) [] []), .tmp (nat_lit 25), .tmp (nat_lit 26)], (some (nat_lit 27)), none⟩])
 .ret)
 .skip))
 (.seq (.region [
  .ins ⟨(.p .mv), [.tmp (nat_lit 1)], (some (nat_lit 28)), none⟩,
  .ins ⟨(.p .mv), [.tmp (nat_lit 2)], (some (nat_lit 29)), none⟩,
  .ins ⟨(.p (.build [(.int .i64 (.ofNat (nat_lit 0))), (.int .i64 (.ofNat (nat_lit 0))), (.slice none (nat_lit 0) (nat_lit 0) (nat_lit 0)), (.slice none (nat_lit 0) (nat_lit 0) (nat_lit 0)), (.bool false), (.int .i64 (.ofNat (nat_lit 0))), (.int .i64 (.ofNat (nat_lit 0)))] [((nat_lit 0), (nat_lit 1)), ((nat_lit 1), (nat_lit 1)), ((nat_lit 2), (nat_lit 1))])), [.const (.int .i64 (.ofNat (nat_lit 3))), .tmp (nat_lit 28), .tmp (nat_lit 29)], (some (nat_lit 30)), none⟩,
  .ins ⟨(.a (.alloc [(.int .i64 (.ofNat (nat_lit 0))), (.int .i64 (.ofNat (nat_lit 0))), (.slice none (nat_lit 0) (nat_lit 0) (nat_lit 0)), (.slice none (nat_lit 0) (nat_lit 0) (nat_lit 0)), (.bool false), (.int .i64 (.ofNat (nat_lit 0))), (.int .i64 (.ofNat (nat_lit 0)))])), [], (some (nat_lit 12)), none⟩,
  .ins ⟨(.l (.store (nat_lit 7))), [.tmp (nat_lit 12), .tmp (nat_lit 30)], none, none⟩])
 (.seq (.region [
  .ins ⟨(.p .mv), [.tmp (nat_lit 3)], (some (nat_lit 31)), none⟩,
  .ins ⟨(.p .mv), [.tmp (nat_lit 31)], (some (nat_lit 13)), none⟩])
 (.seq (.block (nat_lit 0) (.seq (.region [
  .ins ⟨(.p .mv), [.tmp (nat_lit 10)], (some (nat_lit 42)), none⟩,
  .ins ⟨(.p .nilck), [.tmp (nat_lit 42)], (some (nat_lit 43)), none⟩,
  .ins ⟨(.p (.fieldAddr (nat_lit 0))), [.tmp (nat_lit 43)], (some (nat_lit 44)), none⟩,
  .ins ⟨(.r (.load false (nat_lit 1))), [.tmp (nat_lit 44)], (some (nat_lit 45)), none⟩,
  .ins ⟨(.c .value), [.const (.func (.func (nat_lit 162)) [] []), .tmp (nat_lit 45)], (some (nat_lit 46)), none⟩,
  .ins ⟨(.p (.bini .eql)), [.tmp (nat_lit 46), .const (.int .i64 (.ofNat (nat_lit 3)))], (some (nat_lit 47)), none⟩,
  .ins ⟨(.p .mv), [.tmp (nat_lit 47)], (some (nat_lit 41)), none⟩])
 (.cond (.tmp (nat_lit 41)) (.seq (.region [
  .ins ⟨(.p .mv), [.tmp (nat_lit 0)], (some (nat_lit 48)), none⟩,
  .ins ⟨(.p .mv), [.tmp (nat_lit 1)], (some (nat_lit 49)), none⟩,
  .ins ⟨(.c .value), [.const (.func (.func (nat_lit 241)) [] []), .tmp (nat_lit 48), .tmp (nat_lit 49), .const (.int .i64 (.ofNat (nat_lit 5)))], (some (nat_lit 50)), none⟩])
 .ret)
 (.seq (.region [
  .ins ⟨(.p .mv), [.tmp (nat_lit 10)], (some (nat_lit 52)), none⟩,
  .ins ⟨(.p .nilck), [.tmp (nat_lit 52)], (some (nat_lit 53)), none⟩,
  .ins ⟨(.p (.fieldAddr (nat_lit 3))), [.tmp (nat_lit 53)], (some (nat_lit 54)), none⟩,
  .ins ⟨(.r (.load false (nat_lit 1))), [.tmp (nat_lit 54)], (some (nat_lit 55)), none⟩,
  .ins ⟨(.p .mv), [.tmp (nat_lit 55)], (some (nat_lit 51)), none⟩])
 (.cond (.tmp (nat_lit 51)) (.region [
  .ins ⟨(.p .mv), [.tmp (nat_lit 13)], (some (nat_lit 56)), none⟩,
  .ins ⟨(.p .mv), [.tmp (nat_lit 56)], (some (nat_lit 57)), none⟩,
  .ins ⟨(.p .mv), [.tmp (nat_lit 4)], (some (nat_lit 58)), (some ((nat_lit 57), false))⟩,
  .ins ⟨(.p (.un .not)), [.tmp (nat_lit 58)], (some (nat_lit 59)), (some ((nat_lit 57), false))⟩,
  .ins ⟨(.p .pick), [.tmp (nat_lit 57), .const (.bool true), .tmp (nat_lit 59)], (some (nat_lit 60)), none⟩,
  .ins ⟨(.p .mv), [.tmp (nat_lit 60)], (some (nat_lit 61)), none⟩,
  .ins ⟨(.p .mv), [.tmp (nat_lit 2)], (some (nat_lit 62)), (some ((nat_lit 61), false))⟩,
  .ins ⟨(.c .value), [.const (.func (.func (nat_lit 286)) [] []), .tmp (nat_lit 62)], (some (nat_lit 63)), (some ((nat_lit 61), false))⟩,
  .ins ⟨(.p (.bini .neq)), [.tmp (nat_lit 63), .const (.int .i64 (.ofNat (nat_lit 0)))], (some (nat_lit 64)), (some ((nat_lit 61), false))⟩,
  .ins ⟨(.p .pick), [.tmp (nat_lit 61), .const (.bool true), .tmp (nat_lit 64)], (some (nat_lit 65)), none⟩,
  .ins ⟨(.p .mv), [.tmp (nat_lit 65)], (some (nat_lit 13)), none⟩])
 (.seq (.region [
  .ins ⟨(.p .mv), [.tmp (nat_lit 13)], (some (nat_lit 32)), none⟩,
  .ins ⟨(.p .mv), [.tmp (nat_lit 32)], (some (nat_lit 33)), none⟩,
  .ins ⟨(.p .mv), [.tmp (nat_lit 2)], (some (nat_lit 34)), (some ((nat_lit 33), false))⟩,
  .ins ⟨(.c .value), [.const (.func (.func (nat_lit 116)) [] []), .tmp (nat_lit 34)], (some (nat_lit 35)), (some ((nat_lit 33), false))⟩,
  .ins ⟨(.p (.bini .neq)), [.tmp (nat_lit 35), .const (.int .i64 (.ofNat (nat_lit 0)))], (some (nat_lit 36)), (some ((nat_lit 33), false))⟩,
  .ins ⟨(.p .pick), [.tmp (nat_lit 33), .const (.bool true), .tmp (nat_lit 36)], (some (nat_lit 37)), none⟩,
  .ins ⟨(.p .mv), [.tmp (nat_lit 37)], (some (nat_lit 13)), none⟩])
 (.region [
  .ins ⟨(.p .mv), [.tmp (nat_lit 4)], (some (nat_lit 38)), none⟩,
  .ins ⟨(.p (.fieldAddr (nat_lit 0))), [.tmp (nat_lit 12)], (some (nat_lit 39)), none⟩,
  .ins ⟨(.l (.store (nat_lit 1))), [.tmp (nat_lit 39), .const (.int .i64 (.ofNat (nat_lit 2)))], none, none⟩,
  .ins ⟨(.p (.fieldAddr (nat_lit 4))), [.tmp (nat_lit 12)], (some (nat_lit 40)), none⟩,
  .ins ⟨(.l (.store (nat_lit 1))), [.tmp (nat_lit 40), .tmp (nat_lit 38)], none, none⟩])))))))
 (.seq (.seq (.region [
  .ins ⟨(.p .mv), [.tmp (nat_lit 13)], (some (nat_lit 66)), none⟩])
 (.cond (.tmp (nat_lit 66)) (.seq (.region [
  .ins ⟨(.p .mv), [.tmp (nat_lit 0)], (some (nat_lit 67)), none⟩,
  .ins ⟨(.p .mv), [.tmp (nat_lit 1)], (some (nat_lit 68)), none⟩,
  .ins ⟨(.c .value), [.const (.func (.func (nat_lit 241)) [] []), .tmp (nat_lit 67), .tmp (nat_lit 68), .const (.int .i64 (.ofNat (nat_lit 1)))], (some (nat_lit 69)), none⟩])
 .ret)
 .skip))
 (.seq (.region [
  .ins ⟨(.p .mv), [.tmp (nat_lit 10)], (some (nat_lit 70)), none⟩,
  .ins ⟨(.p .nilck), [.tmp (nat_lit 70)], (some (nat_lit 71)), none⟩,
  .ins ⟨(.p (.fieldAddr (nat_lit 3))), [.tmp (nat_lit 71)], (some (nat_lit 72)), none⟩,
  .ins ⟨(.l (.store (nat_lit 1))), [.tmp (nat_lit 72), .const (.bool true)], none, none⟩])
 (.seq (.region [
  .ins ⟨(.p .mv), [.tmp (nat_lit 10)], (some (nat_lit 73)), none⟩,
  .ins ⟨(.p .nilck), [.tmp (nat_lit 73)], (some (nat_lit 74)), none⟩,
  .ins ⟨(.p (.fieldAddr (nat_lit 0))), [.tmp (nat_lit 74)], (some (nat_lit 75)), none⟩,
  .ins ⟨(.r (.load false (nat_lit 1))), [.tmp (nat_lit 75)], (some (nat_lit 76)), none⟩,
  .ins ⟨(.p .mv), [.tmp (nat_lit 4)], (some (nat_lit 77)), none⟩,
  .ins ⟨(.c .value), [.const (.func (.func (nat_lit 146)) [] []), .tmp (nat_lit 76), .const (.int .i64 (.ofNat (nat_lit 1))), .tmp (nat_lit 77)], (some (nat_lit 78)), none⟩])
 (.seq (.region [
  .ins ⟨(.p .mv), [.tmp (nat_lit 0)], (some (nat_lit 79)), none⟩,
  .ins ⟨(.r (.load true (nat_lit 7))), [.tmp (nat_lit 12)], (some (nat_lit 80)), none⟩,
  .ins ⟨(.c .value), [.const (.func (.func (nat_lit 152)) [] []), .tmp (nat_lit 79), .tmp (nat_lit 80)], (some (nat_lit 81)), none⟩])
 (.region [
  .ins ⟨(.p .mv), [.tmp (nat_lit 0)], (some (nat_lit 82)), none⟩,
  .ins ⟨(.p .mv), [.tmp (nat_lit 1)], (some (nat_lit 83)), none⟩,
  .ins ⟨(.p .mv), [.tmp (nat_lit 10)], (some (nat_lit 84)), none⟩,
  .ins ⟨(.c .value), [.const (.func (.func (nat_lit 177)) [] []), .tmp (nat_lit 82), .tmp (nat_lit 83), .tmp (nat_lit 84)], (some (nat_lit 85)), none⟩]))))))))))⟩

def c237 : Code' := .fn ⟨(nat_lit 33), [.tmp (nat_lit 2)],
 (.seq (.region [
  .ins ⟨(.p .mv), [.const (.bool false)], (some (nat_lit 2)), none⟩])
 (.seq (.seq (.region [
  .ins ⟨(.p .mv), [.tmp (nat_lit 0)], (some (nat_lit 3)), none⟩,
  .ins ⟨(.p (.eqnil .ptr false)), [.tmp (nat_lit 3), .const (.ptr none)], (some (nat_lit 4)), none⟩,
  .ins ⟨(.p .mv), [.tmp (nat_lit 4)], (some (nat_lit 5)), none⟩,
  .ins ⟨(.p .mv), [.tmp (nat_lit 0)], (some (nat_lit 6)), (some ((nat_lit 5), false))⟩,
  .ins ⟨(.p .nilck), [.tmp (nat_lit 6)], (some (nat_lit 7)), (some ((nat_lit 5), false))⟩,
  .ins ⟨(.p (.fieldAddr (nat_lit 0))), [.tmp (nat_lit 7)], (some (nat_lit 8)), (some ((nat_lit 5), false))⟩,
  .ins ⟨(.r (.load false (nat_lit 1))), [.tmp (nat_lit 8)], (some (nat_lit 9)), (some ((nat_lit 5), false))⟩,
  .ins ⟨(.p .lenSl), [.tmp (nat_lit 9)], (some (nat_lit 10)), (some ((nat_lit 5), false))⟩,
  .ins ⟨(.p (.bini .eql)), [.tmp (nat_lit 10), .const (.int .i64 (.ofNat (nat_lit 0)))], (some (nat_lit 11)), (some ((nat_lit 5), false))⟩,
  .ins ⟨(.p .pick), [.tmp (nat_lit 5), .const (.bool true), .tmp (nat_lit 11)], (some (nat_lit 12)), none⟩])
 (.cond (.tmp (nat_lit 12)) (.seq (.region [
  .ins ⟨(.p .mv), [.const (.bool false)], (some (nat_lit 2)), none⟩])
 .ret)
 .skip))
 (.seq (.region [
  .ins ⟨(.p .mv), [.tmp (nat_lit 0)], (some (nat_lit 13)), none⟩,
  .ins ⟨(.p .mv), [.tmp (nat_lit 0)], (some (nat_lit 14)), none⟩,
  .ins ⟨(.p .mv), [.tmp (nat_lit 0)], (some (nat_lit 15)), none⟩,
  .ins ⟨(.p .mv), [.tmp (nat_lit 0)], (some (nat_lit 16)), none⟩,
  .ins ⟨(.p .nilck), [.tmp (nat_lit 16)], (some (nat_lit 17)), none⟩,
  .ins ⟨(.p (.fieldAddr (nat_lit 0))), [.tmp (nat_lit 17)], (some (nat_lit 18)), none⟩,
  .ins ⟨(.r (.load false (nat_lit 1))), [.tmp (nat_lit 18)], (some (nat_lit 19)), none⟩,
  .ins ⟨(.p (.indexAddr (nat_lit 5))), [.tmp (nat_lit 19), .const (.int .i64 (.ofNat (nat_lit 0)))], (some (nat_lit 20)), none⟩,
  .ins ⟨(.r (.load true (nat_lit 5))), [.tmp (nat_lit 20)], (some (nat_lit 21)), none⟩,
  .ins ⟨(.p .mv), [.tmp (nat_lit 0)], (some (nat_lit 22)), none⟩,
  .ins ⟨(.p .nilck), [.tmp (nat_lit 22)], (some (nat_lit 23)), none⟩,
  .ins ⟨(.p (.fieldAddr (nat_lit 0))), [.tmp (nat_lit 23)], (some (nat_lit 24)), none⟩,
  .ins ⟨(.r (.load false (nat_lit 1))), [.tmp (nat_lit 24)], (some (nat_lit 25)), none⟩,
  .ins ⟨(.p (.slice (nat_lit 5) true false)), [.tmp (nat_lit 25), .const (.int .i64 (.ofNat (nat_lit 1)))], (some (nat_lit 26)), none⟩,
  .ins ⟨(.p .nilck), [.tmp (nat_lit 13)], (some (nat_lit 27)), none⟩,
  .ins ⟨(.p (.fieldAddr (nat_lit 1))), [.tmp (nat_lit 27)], (some (nat_lit 28)), none⟩,
  .ins ⟨(.l (.store (nat_lit 5))), [.tmp (nat_lit 28), .tmp (nat_lit 21)], none, none⟩,
  .ins ⟨(.p .nilck), [.tmp (nat_lit 14)], (some (nat_lit 29)), none⟩,
  .ins ⟨(.p (.fieldAddr (nat_lit 0))), [.tmp (nat_lit 29)], (some (nat_lit 30)), none⟩,
  .ins ⟨(.l (.store (nat_lit 1))), [.tmp (nat_lit 30), .tmp (nat_lit 26)], none, none⟩,
  .ins ⟨(.p .nilck), [.tmp (nat_lit 15)], (some (nat_lit 31)), none⟩,
  .ins ⟨(.p (.fieldAddr (nat_lit 11))), [.tmp (nat_lit 31)], (some (nat_lit 32)), none⟩,
  .ins ⟨(.l (.store (nat_lit 1))), [.tmp (nat_lit 32), .const (.bool true)], none, none⟩])
 (.seq (.region [
  .ins ⟨(.p .mv), [.const (.bool true)], (some (nat_lit 2)), none⟩])
 .ret))))⟩

def c238 : Code' := .fn ⟨(nat_lit 32), [],
 (.seq (.seq (.region [
  .ins ⟨(.p .mv), [.tmp (nat_lit 0)], (some (nat_lit 5)), none⟩,
  .ins ⟨(.p (.eqnil .ptr false)), [.tmp (nat_lit 5), .const (.ptr none)], (some (nat_lit 6)), none⟩])
 (.cond (.tmp (nat_lit 6)) .ret
 .skip))
 (.seq (.region [
  .ins ⟨(.p .mv), [.tmp (nat_lit 0)], (some (nat_lit 7)), none⟩,
  .ins ⟨(.p .nilck), [.tmp (nat_lit 7)], (some (nat_lit 8)), none⟩,
  .ins ⟨(.p (.fieldAddr (nat_lit 0))), [.tmp (nat_lit 8)], (some (nat_lit 9)), none⟩,
  .ins ⟨(.r (.load false (nat_lit 1))), [.tmp (nat_lit 9)], (some (nat_lit 10)), none⟩,
  .ins ⟨(.p .mv), [.tmp (nat_lit 1)], (some (nat_lit 11)), none⟩,
  .ins ⟨(.c .value), [.const (.func (.func (nat_lit 247)) [] []), .tmp (nat_lit 11), .const (.int .i64 (.negSucc (nat_lit 2147483646))), .const (.int .i64 (.ofNat (nat_lit 2147483647)))], (some (nat_lit 12)), none⟩,
  .ins ⟨(.p (.bini .add)), [.tmp (nat_lit 10), .tmp (nat_lit 12)], (some (nat_lit 13)), none⟩,
  .again ⟨(.r (.load false (nat_lit 1))), [.tmp (nat_lit 9)], (some (nat_lit 10)), none⟩,
  .ins ⟨(.c .value), [.const (.func (.func (nat_lit 247)) [] []), .tmp (nat_lit 13), .const (.int .i64 (.ofNat (nat_lit 0))), .const (.int .i64 (.ofNat (nat_lit 2147483647)))], (some (nat_lit 14)), none⟩,
  .ins ⟨(.p .mv), [.tmp (nat_lit 14)], (some (nat_lit 4)), none⟩])
 (.seq (.region [
  .ins ⟨(.p .mv), [.tmp (nat_lit 0)], (some (nat_lit 15)), none⟩,
  .ins ⟨(.p .nilck), [.tmp (nat_lit 15)], (some (nat_lit 16)), none⟩,
  .ins ⟨(.p (.fieldAddr (nat_lit 1))), [.tmp (nat_lit 16)], (some (nat_lit 17)), none⟩,
  .ins ⟨(.r (.load false (nat_lit 1))), [.tmp (nat_lit 17)], (some (nat_lit 18)), none⟩,
  .ins ⟨(.p .mv), [.tmp (nat_lit 4)], (some (nat_lit 19)), none⟩,
  .ins ⟨(.p .mv), [.tmp (nat_lit 0)], (some (nat_lit 20)), none⟩,
  .ins ⟨(.p .nilck), [.tmp (nat_lit 20)], (some (nat_lit 21)), none⟩,
  .ins ⟨(.p (.fieldAddr (nat_lit 0))), [.tmp (nat_lit 21)], (some (nat_lit 22)), none⟩,
  .ins ⟨(.r (.load false (nat_lit 1))), [.tmp (nat_lit 22)], (some (nat_lit 23)), none⟩,
  .ins ⟨(.p (.bini .sub)), [.tmp (nat_lit 19), .tmp (nat_lit 23)], (some (nat_lit 24)), none⟩,
  .ins ⟨(.p (.bini .add)), [.tmp (nat_lit 18), .tmp (nat_lit 24)], (some (nat_lit 25)), none⟩,
  .ins ⟨(.p .nilck), [.tmp (nat_lit 15)], (some (nat_lit 26)), none⟩,
  .ins ⟨(.p (.fieldAddr (nat_lit 1))), [.tmp (nat_lit 26)], (some (nat_lit 27)), none⟩,
  .ins ⟨(.l (.store (nat_lit 1))), [.tmp (nat_lit 27), .tmp (nat_lit 25)], none, none⟩])
 (.region [
  .ins ⟨(.p .mv), [.tmp (nat_lit 0)], (some (nat_lit 28)), none⟩,
  .ins ⟨(.p .mv), [.tmp (nat_lit 4)], (some (nat_lit 29)), none⟩,
  .ins ⟨(.p .nilck), [.tmp (nat_lit 28)], (some (nat_lit 30)), none⟩,
  .ins ⟨(.p (.fieldAddr (nat_lit 0))), [.tmp (nat_lit 30)], (some (nat_lit 31)), none⟩,
  .ins ⟨(.l (.store (nat_lit 1))), [.tmp (nat_lit 31), .tmp (nat_lit 29)], none, none⟩]))))⟩

def c239 : Code' := .fn ⟨(nat_lit 34), [.tmp (nat_lit 4)],
 (.seq (.region [
  .ins ⟨(.p .mv), [.const (.int .i64 (.ofNat (nat_lit 0)))], (some (nat_lit 4)), none⟩])
 (.seq (.block (nat_lit 0) (.seq (.region [
  .ins ⟨(.p .mv), [.tmp (nat_lit 0)], (some (nat_lit 6)), none⟩,
  .ins ⟨(.p (.eqnil .ptr false)), [.tmp (nat_lit 6), .const (.ptr none)], (some (nat_lit 7)), none⟩,
  .ins ⟨(.p .mv), [.tmp (nat_lit 7)], (some (nat_lit 8)), none⟩,
  .ins ⟨(.p .mv), [.tmp (nat_lit 1)], (some (nat_lit 9)), (some ((nat_lit 8), false))⟩,
  .ins ⟨(.p (.bini .lss)), [.tmp (nat_lit 9), .const (.int .i64 (.negSucc (nat_lit 2147483646)))], (some (nat_lit 10)), (some ((nat_lit 8), false))⟩,
  .ins ⟨(.p .pick), [.tmp (nat_lit 8), .const (.bool true), .tmp (nat_lit 10)], (some (nat_lit 11)), none⟩,
  .ins ⟨(.p .mv), [.tmp (nat_lit 11)], (some (nat_lit 12)), none⟩,
  .ins ⟨(.p .mv), [.tmp (nat_lit 1)], (some (nat_lit 13)), (some ((nat_lit 12), false))⟩,
  .ins ⟨(.p (.bini .gtr)), [.tmp (nat_lit 13), .const (.int .i64 (.ofNat (nat_lit 2147483647)))], (some (nat_lit 14)), (some ((nat_lit 12), false))⟩,
  .ins ⟨(.p .pick), [.tmp (nat_lit 12), .const (.bool true), .tmp (nat_lit 14)], (some (nat_lit 15)), none⟩,
  .ins ⟨(.p .mv), [.tmp (nat_lit 15)], (some (nat_lit 5)), none⟩])
 (.cond (.tmp (nat_lit 5)) (.seq (.region [
  .ins ⟨(.p .mv), [.const (.int .i64 (.ofNat (nat_lit 1)))], (some (nat_lit 4)), none⟩])
 .ret)
 (.seq (.region [
  .ins ⟨(.p .mv), [.tmp (nat_lit 0)], (some (nat_lit 17)), none⟩,
  .ins ⟨(.p .nilck), [.tmp (nat_lit 17)], (some (nat_lit 18)), none⟩,
  .ins ⟨(.p (.fieldAddr (nat_lit 0))), [.tmp (nat_lit 18)], (some (nat_lit 19)), none⟩,
  .ins ⟨(.r (.load false (nat_lit 1))), [.tmp (nat_lit 19)], (some (nat_lit 20)), none⟩,
  .ins ⟨(.p .mv), [.tmp (nat_lit 1)], (some (nat_lit 21)), none⟩,
  .ins ⟨(.p (.bini .add)), [.tmp (nat_lit 20), .tmp (nat_lit 21)], (some (nat_lit 22)), none⟩,
  .ins ⟨(.p (.bini .gtr)), [.tmp (nat_lit 22), .const (.int .i64 (.ofNat (nat_lit 2147483647)))], (some (nat_lit 23)), none⟩,
  .ins ⟨(.p .mv), [.tmp (nat_lit 23)], (some (nat_lit 16)), none⟩])
 (.cond (.tmp (nat_lit 16)) (.seq (.region [
  .ins ⟨(.p .mv), [.const (.int .i64 (.ofNat (nat_lit 10)))], (some (nat_lit 4)), none⟩])
 .ret)
 .skip)))))
 (.seq (.region [
  .ins ⟨(.p .mv), [.tmp (nat_lit 0)], (some (nat_lit 24)), none⟩,
  .ins ⟨(.p .mv), [.tmp (nat_lit 0)], (some (nat_lit 25)), none⟩,
  .ins ⟨(.p .nilck), [.tmp (nat_lit 25)], (some (nat_lit 26)), none⟩,
  .ins ⟨(.p (.fieldAddr (nat_lit 0))), [.tmp (nat_lit 26)], (some (nat_lit 27)), none⟩,
  .ins ⟨(.r (.load false (nat_lit 1))), [.tmp (nat_lit 27)], (some (nat_lit 28)), none⟩,
  .ins ⟨(.p .mv), [.tmp (nat_lit 1)], (some (nat_lit 29)), none⟩,
  .ins ⟨(.p (.bini .add)), [.tmp (nat_lit 28), .tmp (nat_lit 29)], (some (nat_lit 30)), none⟩,
  .ins ⟨(.p .max), [.tmp (nat_lit 30), .const (.int .i64 (.negSucc (nat_lit 2147483646)))], (some (nat_lit 31)), none⟩,
  .ins ⟨(.p .nilck), [.tmp (nat_lit 24)], (some (nat_lit 32)), none⟩,
  .ins ⟨(.p (.fieldAddr (nat_lit 0))), [.tmp (nat_lit 32)], (some (nat_lit 33)), none⟩,
  .ins ⟨(.l (.store (nat_lit 1))), [.tmp (nat_lit 33), .tmp (nat_lit 31)], none, none⟩])
 (.seq (.region [
  .ins ⟨(.p .mv), [.const (.int .i64 (.ofNat (nat_lit 0)))], (some (nat_lit 4)), none⟩])
 .ret))))⟩

def c242 : Code' := .fn ⟨(nat_lit 43), [],
 (.seq (.seq (.region [
  .ins ⟨(.r (.load false (nat_lit 1))), [.tmp (nat_lit 1)], (some (nat_lit 6)), none⟩,
  .ins ⟨(.p (.eqnil .ptr false)), [.tmp (nat_lit 6), .const (.ptr none)], (some (nat_lit 7)), none⟩])
 (.cond (.tmp (nat_lit 7)) .ret
 .skip))
 (.seq (.region [
  .ins ⟨(.p .mv), [.const (.int .i64 (.ofNat (nat_lit 1)))], (some (nat_lit 3)), none⟩])
 (.block (nat_lit 0) (.loop (.seq (.block (nat_lit 1) (.seq (.region [
  .ins ⟨(.r (.load false (nat_lit 1))), [.tmp (nat_lit 1)], (some (nat_lit 11)), none⟩,
  .ins ⟨(.p .mv), [.tmp (nat_lit 3)], (some (nat_lit 12)), none⟩,
  .ins ⟨(.c .value), [.const (.func (.func (nat_lit 185)) [] []), .tmp (nat_lit 11), .tmp (nat_lit 12)], (some (nat_lit 13)), none⟩,
  .ins ⟨(.p .mv), [.tmp (nat_lit 13)], (some (nat_lit 10)), none⟩,
  .ins ⟨(.p (.extract (nat_lit 0))), [.tmp (nat_lit 10)], (some (nat_lit 14)), none⟩,
  .ins ⟨(.p (.extract (nat_lit 1))), [.tmp (nat_lit 10)], (some (nat_lit 15)), none⟩,
  .ins ⟨(.p .mv), [.tmp (nat_lit 14)], (some (nat_lit 4)), none⟩,
  .ins ⟨(.p .mv), [.tmp (nat_lit 15)], (some (nat_lit 5)), none⟩])
 (.seq (.seq (.region [
  .ins ⟨(.p .mv), [.tmp (nat_lit 4)], (some (nat_lit 16)), none⟩,
  .ins ⟨(.r (.load false (nat_lit 1))), [.tmp (nat_lit 1)], (some (nat_lit 17)), none⟩,
  .ins ⟨(.p .nilck), [.tmp (nat_lit 17)], (some (nat_lit 18)), none⟩,
  .ins ⟨(.p (.fieldAddr (nat_lit 0))), [.tmp (nat_lit 18)], (some (nat_lit 19)), none⟩,
  .ins ⟨(.r (.load false (nat_lit 1))), [.tmp (nat_lit 19)], (some (nat_lit 20)), none⟩,
  .ins ⟨(.p .lenSl), [.tmp (nat_lit 20)], (some (nat_lit 21)), none⟩,
  .ins ⟨(.p (.bini .eql)), [.tmp (nat_lit 16), .tmp (nat_lit 21)], (some (nat_lit 22)), none⟩])
 (.cond (.tmp (nat_lit 22)) .ret
 .skip))
 (.seq (.region [
  .ins ⟨(.r (.load false (nat_lit 1))), [.tmp (nat_lit 1)], (some (nat_lit 23)), none⟩,
  .ins ⟨(.p .nilck), [.tmp (nat_lit 23)], (some (nat_lit 24)), none⟩,
  .ins ⟨(.p (.fieldAddr (nat_lit 0))), [.tmp (nat_lit 24)], (some (nat_lit 25)), none⟩,
  .ins ⟨(.r (.load false (nat_lit 1))), [.tmp (nat_lit 25)], (some (nat_lit 26)), none⟩,
  .ins ⟨(.p .mv), [.tmp (nat_lit 4)], (some (nat_lit 27)), none⟩,
  .ins ⟨(.p (.indexAddr (nat_lit 2))), [.tmp (nat_lit 26), .tmp (nat_lit 27)], (some (nat_lit 28)), none⟩,
  .ins ⟨(.p (.fieldAddr (nat_lit 0))), [.tmp (nat_lit 28)], (some (nat_lit 29)), none⟩,
  .ins ⟨(.r (.load false (nat_lit 1))), [.tmp (nat_lit 29)], (some (nat_lit 30)), none⟩,
  .ins ⟨(.p .mv), [.tmp (nat_lit 30)], (some (nat_lit 3)), none⟩])
 (.seq (.region [
  .ins ⟨(.p .mv), [.tmp (nat_lit 0)], (some (nat_lit 31)), none⟩,
  .ins ⟨(.p .mv), [.tmp (nat_lit 3)], (some (nat_lit 32)), none⟩,
  .ins ⟨(.r (.load false (nat_lit 1))), [.tmp (nat_lit 1)], (some (nat_lit 33)), none⟩,
  .ins ⟨(.p .nilck), [.tmp (nat_lit 33)], (some (nat_lit 34)), none⟩,
  .ins ⟨(.p (.fieldAddr (nat_lit 0))), [.tmp (nat_lit 34)], (some (nat_lit 35)), none⟩,
  .ins ⟨(.r (.load false (nat_lit 1))), [.tmp (nat_lit 35)], (some (nat_lit 36)), none⟩,
  .ins ⟨(.p .mv), [.tmp (nat_lit 4)], (some (nat_lit 37)), none⟩,
  .ins ⟨(.p (.indexAddr (nat_lit 2))), [.tmp (nat_lit 36), .tmp (nat_lit 37)], (some (nat_lit 38)), none⟩,
  .ins ⟨(.p (.fieldAddr (nat_lit 1))), [.tmp (nat_lit 38)], (some (nat_lit 39)), none⟩,
  .ins ⟨(.r (.load false (nat_lit 1))), [.tmp (nat_lit 39)], (some (nat_lit 40)), none⟩,
  .ins ⟨(.c .value), [.tmp (nat_lit 31), .tmp (nat_lit 32), .tmp (nat_lit 40)], (some (nat_lit 41)), none⟩,
  .ins ⟨(.p (.un .not)), [.tmp (nat_lit 41)], (some (nat_lit 42)), none⟩])
 (.cond (.tmp (nat_lit 42)) .ret
 .skip))))))
 (.region [
  .ins ⟨(.p .mv), [.tmp (nat_lit 3)], (some (nat_lit 8)), none⟩,
  .ins ⟨(.p (.bini .add)), [.tmp (nat_lit 8), .const (.int .i64 (.ofNat (nat_lit 1)))], (some (nat_lit 9)), none⟩,
  .ins ⟨(.p .mv), [.tmp (nat_lit 9)], (some (nat_lit 3)), none⟩]))))))⟩

def c246 : Code' := .fn ⟨(nat_lit 18), [.tmp (nat_lit 4)],
 (.seq (.region [
  .ins ⟨(.p .mv), [.const (.bool false)], (some (nat_lit 4)), none⟩])
 (.seq (.region [
  .ins ⟨(.p .mv), [.tmp (nat_lit 0)], (some (nat_lit 5)), none⟩,
  .ins ⟨(.p .lenStr), [.tmp (nat_lit 5)], (some (nat_lit 6)), none⟩,
  .ins ⟨(.p .mv), [.tmp (nat_lit 1)], (some (nat_lit 7)), none⟩,
  .ins ⟨(.p .lenStr), [.tmp (nat_lit 7)], (some (nat_lit 8)), none⟩,
  .ins ⟨(.p (.bini .geq)), [.tmp (nat_lit 6), .tmp (nat_lit 8)], (some (nat_lit 9)), none⟩,
  .ins ⟨(.p .mv), [.tmp (nat_lit 9)], (some (nat_lit 10)), none⟩,
  .ins ⟨(.p .mv), [.tmp (nat_lit 0)], (some (nat_lit 11)), (some ((nat_lit 10), true))⟩,
  .ins ⟨(.p .mv), [.tmp (nat_lit 1)], (some (nat_lit 12)), (some ((nat_lit 10), true))⟩,
  .ins ⟨(.p .lenStr), [.tmp (nat_lit 12)], (some (nat_lit 13)), (some ((nat_lit 10), true))⟩,
  .ins ⟨(.p (.sliceStr false true)), [.tmp (nat_lit 11), .tmp (nat_lit 13)], (some (nat_lit 14)), (some ((nat_lit 10), true))⟩,
  .ins ⟨(.p .mv), [.tmp (nat_lit 1)], (some (nat_lit 15)), (some ((nat_lit 10), true))⟩,
  .ins ⟨(.p (.bins .eql)), [.tmp (nat_lit 14), .tmp (nat_lit 15)], (some (nat_lit 16)), (some ((nat_lit 10), true))⟩,
  .ins ⟨(.p .pick), [.tmp (nat_lit 10), .tmp (nat_lit 16), .const (.bool false)], (some (nat_lit 17)), none⟩,
  .ins ⟨(.p .mv), [.tmp (nat_lit 17)], (some (nat_lit 4)), none⟩])
 .ret))⟩

def c247 : Code' := .fn ⟨(nat_lit 12), [.tmp (nat_lit 6)],
 (.seq (.region [
  .ins ⟨(.p .mv), [.const (.int .i64 (.ofNat (nat_lit 0)))], (some (nat_lit 6)), none⟩])
 (.seq (.region [
  .ins ⟨(.p .mv), [.tmp (nat_lit 0)], (some (nat_lit 7)), none⟩,
  .ins ⟨(.p .mv), [.tmp (nat_lit 1)], (some (nat_lit 8)), none⟩,
  .ins ⟨(.p .max), [.tmp (nat_lit 7), .tmp (nat_lit 8)], (some (nat_lit 9)), none⟩,
  .ins ⟨(.p .mv), [.tmp (nat_lit 2)], (some (nat_lit 10)), none⟩,
  .ins ⟨(.p .min), [.tmp (nat_lit 9), .tmp (nat_lit 10)], (some (nat_lit 11)), none⟩,
  .ins ⟨(.p .mv), [.tmp (nat_lit 11)], (some (nat_lit 6)), none⟩])
 .ret))⟩

def c249 : Code' := .fn ⟨(nat_lit 48), [.tmp (nat_lit 4), .tmp (nat_lit 5)],
 (.seq (.region [
  .ins ⟨(.a .box), [.tmp (nat_lit 1)], (some (nat_lit 3)), none⟩,
  .ins ⟨(.p .mv), [.const (.int .i64 (.ofNat (nat_lit 0)))], (some (nat_lit 4)), none⟩,
  .ins ⟨(.p .mv), [.const (.int .i64 (.ofNat (nat_lit 0)))], (some (nat_lit 5)), none⟩])
 (.seq (.region [
  .ins ⟨(.p (.fieldAddr (nat_lit 0))), [.tmp (nat_lit 3)], (some (nat_lit 11)), none⟩,
  .ins ⟨(.r (.load false (nat_lit 1))), [.tmp (nat_lit 11)], (some (nat_lit 12)), none⟩,
  .ins ⟨(.p (.fieldAddr (nat_lit 1))), [.tmp (nat_lit 3)], (some (nat_lit 13)), none⟩,
  .ins ⟨(.r (.load false (nat_lit 1))), [.tmp (nat_lit 13)], (some (nat_lit 14)), none⟩,
  .ins ⟨(.c .value), [.const (.func (.func (nat_lit 289)) [] []), .tmp (nat_lit 12), .tmp (nat_lit 14)], (some (nat_lit 15)), none⟩,
  .ins ⟨(.p .mv), [.tmp (nat_lit 15)], (some (nat_lit 10)), none⟩,
  .ins ⟨(.p (.extract (nat_lit 0))), [.tmp (nat_lit 10)], (some (nat_lit 16)), none⟩,
  .ins ⟨(.p (.extract (nat_lit 1))), [.tmp (nat_lit 10)], (some (nat_lit 17)), none⟩,
  .ins ⟨(.p .mv), [.tmp (nat_lit 16)], (some (nat_lit 6)), none⟩,
  .ins ⟨(.p .mv), [.tmp (nat_lit 17)], (some (nat_lit 7)), none⟩])
 (.seq (.region [
  .ins ⟨(.p .mv), [.tmp (nat_lit 0)], (some (nat_lit 19)), none⟩,
  .ins ⟨(.p .nilck), [.tmp (nat_lit 19)], (some (nat_lit 20)), none⟩,
  .ins ⟨(.p (.fieldAddr (nat_lit 0))), [.tmp (nat_lit 20)], (some (nat_lit 21)), none⟩,
  .ins ⟨(.r (.load false (nat_lit 1))), [.tmp (nat_lit 21)], (some (nat_lit 22)), none⟩,
  .ins ⟨(.p (.fieldAddr (nat_lit 0))), [.tmp (nat_lit 3)], (some (nat_lit 23)), none⟩,
  .ins ⟨(.r (.load false (nat_lit 1))), [.tmp (nat_lit 23)], (some (nat_lit 24)), none⟩,
  .ins ⟨(.p (.fieldAddr (nat_lit 1))), [.tmp (nat_lit 3)], (some (nat_lit 25)), none⟩,
  .ins ⟨(.r (.load false (nat_lit 1))), [.tmp (nat_lit 25)], (some (nat_lit 26)), none⟩,
  .ins ⟨(.c .value), [.const (.func (.func (nat_lit 290)) [] []), .tmp (nat_lit 22), .tmp (nat_lit 24), .tmp (nat_lit 26)], (some (nat_lit 27)), none⟩,
  .ins ⟨(.p .mv), [.tmp (nat_lit 27)], (some (nat_lit 18)), none⟩,
  .ins ⟨(.p (.extract (nat_lit 0))), [.tmp (nat_lit 18)], (some (nat_lit 28)), none⟩,
  .ins ⟨(.p (.extract (nat_lit 1))), [.tmp (nat_lit 18)], (some (nat_lit 29)), none⟩,
  .ins ⟨(.p .mv), [.tmp (nat_lit 28)], (some (nat_lit 8)), none⟩,
  .ins ⟨(.p .mv), [.tmp (nat_lit 29)], (some (nat_lit 9)), none⟩])
 (.seq (.seq (.region [
  .ins ⟨(.p .mv), [.tmp (nat_lit 6)], (some (nat_lit 30)), none⟩,
  .ins ⟨(.p (.bini .eql)), [.tmp (nat_lit 30), .const (.int .i64 (.ofNat (nat_lit 0)))], (some (nat_lit 31)), none⟩,
  .ins ⟨(.p .mv), [.tmp (nat_lit 31)], (some (nat_lit 32)), none⟩,
  .ins ⟨(.p .mv), [.tmp (nat_lit 8)], (some (nat_lit 33)), (some ((nat_lit 32), true))⟩,
  .ins ⟨(.p (.bini .gtr)), [.tmp (nat_lit 33), .const (.int .i64 (.ofNat (nat_lit 0)))], (some (nat_lit 34)), (some ((nat_lit 32), true))⟩,
  .ins ⟨(.p .pick), [.tmp (nat_lit 32), .tmp (nat_lit 34), .const (.bool false)], (some (nat_lit 35)), none⟩])
 (.cond (.tmp (nat_lit 35)) (.region [
  .ins ⟨(.p .mv), [.tmp (nat_lit 8)], (some (nat_lit 36)), none⟩,
  .ins ⟨(.p (.bini .add)), [.const (.int .i64 (.ofNat (nat_lit 61))), .tmp (nat_lit 36)], (some (nat_lit 37)), none⟩,
  .ins ⟨(.p .mv), [.tmp (nat_lit 37)], (some (nat_lit 6)), none⟩])
 .skip))
 (.seq (.seq (.region [
  .ins ⟨(.p .mv), [.tmp (nat_lit 7)], (some (nat_lit 38)), none⟩,
  .ins ⟨(.p (.bini .eql)), [.tmp (nat_lit 38), .const (.int .i64 (.ofNat (nat_lit 0)))], (some (nat_lit 39)), none⟩,
  .ins ⟨(.p .mv), [.tmp (nat_lit 39)], (some (nat_lit 40)), none⟩,
  .ins ⟨(.p .mv), [.tmp (nat_lit 9)], (some (nat_lit 41)), (some ((nat_lit 40), true))⟩,
  .ins ⟨(.p (.bini .gtr)), [.tmp (nat_lit 41), .const (.int .i64 (.ofNat (nat_lit 0)))], (some (nat_lit 42)), (some ((nat_lit 40), true))⟩,
  .ins ⟨(.p .pick), [.tmp (nat_lit 40), .tmp (nat_lit 42), .const (.bool false)], (some (nat_lit 43)), none⟩])
 (.cond (.tmp (nat_lit 43)) (.region [
  .ins ⟨(.p .mv), [.tmp (nat_lit 9)], (some (nat_lit 44)), none⟩,
  .ins ⟨(.p (.bini .add)), [.const (.int .i64 (.ofNat (nat_lit 61))), .tmp (nat_lit 44)], (some (nat_lit 45)), none⟩,
  .ins ⟨(.p .mv), [.tmp (nat_lit 45)], (some (nat_lit 7)), none⟩])
 .skip))
 (.seq (.region [
  .ins ⟨(.p .mv), [.tmp (nat_lit 6)], (some (nat_lit 46)), none⟩,
  .ins ⟨(.p .mv), [.tmp (nat_lit 7)], (some (nat_lit 47)), none⟩,
  .ins ⟨(.p .mv), [.tmp (nat_lit 46)], (some (nat_lit 4)), none⟩,
  .ins ⟨(.p .mv), [.tmp (nat_lit 47)], (some (nat_lit 5)), none⟩])
 .ret))))))⟩

def c251 : Code' := .fn ⟨(nat_lit 21), [.tmp (nat_lit 8)],
 (.seq (.region [
  .ins ⟨(.p .mv), [.const (.slice none (nat_lit 0) (nat_lit 0) (nat_lit 0))], (some (nat_lit 8)), none⟩])
 (.seq (.region [
  .ins ⟨(.p .mv), [.tmp (nat_lit 1)], (some (nat_lit 12)), none⟩,
  .ins ⟨(.p .mv), [.tmp (nat_lit 2)], (some (nat_lit 13)), none⟩,
  .ins ⟨(.p .mv), [.tmp (nat_lit 3)], (some (nat_lit 14)), none⟩,
  .ins ⟨(.c .value), [.const (.func (.func (nat_lit 292)) [] []), .tmp (nat_lit 12), .tmp (nat_lit 13), .tmp (nat_lit 14)], (some (nat_lit 15)), none⟩,
  .ins ⟨(.p .mv), [.tmp (nat_lit 15)], (some (nat_lit 11)), none⟩,
  .ins ⟨(.p (.extract (nat_lit 0))), [.tmp (nat_lit 11)], (some (nat_lit 16)), none⟩,
  .ins ⟨(.p (.extract (nat_lit 1))), [.tmp (nat_lit 11)], (some (nat_lit 17)), none⟩,
  .ins ⟨(.p .mv), [.tmp (nat_lit 16)], (some (nat_lit 9)), none⟩,
  .ins ⟨(.p .mv), [.tmp (nat_lit 17)], (some (nat_lit 10)), none⟩])
 (.seq (.region [
  .ins ⟨(.p .mv), [.tmp (nat_lit 0)], (some (nat_lit 18)), none⟩,
  .ins ⟨(.p .mv), [.tmp (nat_lit 9)], (some (nat_lit 19)), none⟩,
  .ins ⟨(.l (.append [(.int .u8 (.ofNat (nat_lit 0)))] (nat_lit 1) (nat_lit 1))), [.tmp (nat_lit 18), .tmp (nat_lit 19)], (some (nat_lit 20)), none⟩,
  .ins ⟨(.p .mv), [.tmp (nat_lit 20)], (some (nat_lit 8)), none⟩])
 .ret)))⟩

def c253 : Code' := .fn ⟨(nat_lit 50), [],
 (.scope (.seq (.seq (.region [
  .ins ⟨(.r (.load false (nat_lit 1))), [.tmp (nat_lit 1)], (some (nat_lit 9)), none⟩,
  .ins ⟨(.p (.bini .lss)), [.tmp (nat_lit 9), .const (.int .i64 (.ofNat (nat_lit 1)))], (some (nat_lit 10)), none⟩,
  .ins ⟨(.p .mv), [.tmp (nat_lit 10)], (some (nat_lit 11)), none⟩,
  .ins ⟨(.r (.load false (nat_lit 1))), [.tmp (nat_lit 1)], (some (nat_lit 12)), (some ((nat_lit 11), false))⟩,
  .ins ⟨(.p (.bini .gtr)), [.tmp (nat_lit 12), .const (.int .i64 (.ofNat (nat_lit 2147483647)))], (some (nat_lit 13)), (some ((nat_lit 11), false))⟩,
  .ins ⟨(.p .pick), [.tmp (nat_lit 11), .const (.bool true), .tmp (nat_lit 13)], (some (nat_lit 14)), none⟩])
 (.cond (.tmp (nat_lit 14)) .ret
 .skip))
 (.seq (.region [
  .ins ⟨(.r (.load false (nat_lit 1))), [.tmp (nat_lit 1)], (some (nat_lit 15)), none⟩,
  .ins ⟨(.p (.build [(.int .i64 (.ofNat (nat_lit 0))), (.int .i64 (.ofNat (nat_lit 0))), (.int .i64 (.ofNat (nat_lit 0))), (.slice none (nat_lit 0) (nat_lit 0) (nat_lit 0))] [((nat_lit 0), (nat_lit 1)), ((nat_lit 2), (nat_lit 1))])), [.const (.int .i64 (.ofNat (nat_lit 1))), .tmp (nat_lit 15)], (some (nat_lit 16)), none⟩,
  .ins ⟨(.a (.alloc [(.int .i64 (.ofNat (nat_lit 0))), (.int .i64 (.ofNat (nat_lit 0))), (.int .i64 (.ofNat (nat_lit 0))), (.slice none (nat_lit 0) (nat_lit 0) (nat_lit 0))])), [], (some (nat_lit 6)), none⟩,
  .ins ⟨(.l (.store (nat_lit 4))), [.tmp (nat_lit 6), .tmp (nat_lit 16)], none, none⟩])
 (.seq (.seq (.region [
  .ins ⟨(.r (.load false (nat_lit 1))), [.tmp (nat_lit 2)], (some (nat_lit 17)), none⟩])
 (.cond (.tmp (nat_lit 17)) (.region [
  .ins ⟨(.p (.fieldAddr (nat_lit 1))), [.tmp (nat_lit 6)], (some (nat_lit 18)), none⟩,
  .ins ⟨(.l (.store (nat_lit 1))), [.tmp (nat_lit 18), .const (.int .i64 (.ofNat (nat_lit 1)))], none, none⟩])
 .skip))
 (.seq (.region [
  .ins ⟨(.r (.load false (nat_lit 1))), [.tmp (nat_lit 3)], (some (nat_lit 19)), none⟩,
  .ins ⟨(.p .mv), [.tmp (nat_lit 19)], (some (nat_lit 7)), none⟩])
 (.seq .skip
 (.block (nat_lit 0) (.loop (.block (nat_lit 1) (.seq (.region [
  .ins ⟨(.r (.load false (nat_lit 1))), [.tmp (nat_lit 4)], (some (nat_lit 20)), none⟩,
  .ins ⟨(.p .mv), [.tmp (nat_lit 7)], (some (nat_lit 21)), none⟩,
  .ins ⟨(.p .lenSl), [.tmp (nat_lit 21)], (some (nat_lit 22)), none⟩,
  .ins ⟨(.p .min), [.tmp (nat_lit 20), .tmp (nat_lit 22)], (some (nat_lit 23)), none⟩,
  .ins ⟨(.p .mv), [.tmp (nat_lit 23)], (some (nat_lit 8)), none⟩])
 (.seq (.region [
  .ins ⟨(.p .mv), [.tmp (nat_lit 7)], (some (nat_lit 24)), none⟩,
  .ins ⟨(.p .mv), [.tmp (nat_lit 8)], (some (nat_lit 25)), none⟩,
  .ins ⟨(.p (.slice (nat_lit 1) false true)), [.tmp (nat_lit 24), .tmp (nat_lit 25)], (some (nat_lit 26)), none⟩,
  .ins ⟨(.p .mv), [.tmp (nat_lit 7)], (some (nat_lit 28)), none⟩,
  .ins ⟨(.p .mv), [.tmp (nat_lit 8)], (some (nat_lit 29)), none⟩,
  .ins ⟨(.p (.slice (nat_lit 1) true false)), [.tmp (nat_lit 28), .tmp (nat_lit 29)], (some (nat_lit 30)), none⟩,
  .ins ⟨(.c .value), [.const (.func (.func (nat_lit 45)) [] []), .tmp (nat_lit 26)], (some (nat_lit 27)), none⟩,
  .ins ⟨(.p (.fieldAddr (nat_lit 3))), [.tmp (nat_lit 6)], (some (nat_lit 31)), none⟩,
  .ins ⟨(.l (.store (nat_lit 1))), [.tmp (nat_lit 31), .tmp (nat_lit 27)], none, none⟩,
  .ins ⟨(.p .mv), [.tmp (nat_lit 30)], (some (nat_lit 7)), none⟩])
 (.seq (.seq (.region [
  .ins ⟨(.p .mv), [.tmp (nat_lit 7)], (some (nat_lit 32)), none⟩,
  .ins ⟨(.p .lenSl), [.tmp (nat_lit 32)], (some (nat_lit 33)), none⟩,
  .ins ⟨(.p (.bini .eql)), [.tmp (nat_lit 33), .const (.int .i64 (.ofNat (nat_lit 0)))], (some (nat_lit 34)), none⟩])
 (.cond (.tmp (nat_lit 34)) (.region [
  .ins ⟨(.p (.fieldAddr (nat_lit 1))), [.tmp (nat_lit 6)], (some (nat_lit 35)), none⟩,
  .ins ⟨(.r (.load false (nat_lit 1))), [.tmp (nat_lit 35)], (some (nat_lit 36)), none⟩,
  .ins ⟨(.p (.bini .or)), [.tmp (nat_lit 36), .const (.int .i64 (.ofNat (nat_lit 4)))], (some (nat_lit 37)), none⟩,
  .ins ⟨(.p (.fieldAddr (nat_lit 1))), [.tmp (nat_lit 6)], (some (nat_lit 38)), none⟩,
  .ins ⟨(.l (.store (nat_lit 1))), [.tmp (nat_lit 38), .tmp (nat_lit 37)], none, none⟩])
 .skip))
 (.seq (.seq (.region [
  .ins ⟨(.p .mv), [.tmp (nat_lit 0)], (some (nat_lit 39)), none⟩,
  .ins ⟨(.r (.load true (nat_lit 4))), [.tmp (nat_lit 6)], (some (nat_lit 40)), none⟩,
  .ins ⟨(.c .value), [.tmp (nat_lit 39), .tmp (nat_lit 40)], (some (nat_lit 41)), none⟩,
  .ins ⟨(.p (.un .not)), [.tmp (nat_lit 41)], (some (nat_lit 42)), none⟩,
  .ins ⟨(.p .mv), [.tmp (nat_lit 42)], (some (nat_lit 43)), none⟩,
  .ins ⟨(.p .mv), [.tmp (nat_lit 7)], (some (nat_lit 44)), (some ((nat_lit 43), false))⟩,
  .ins ⟨(.p .lenSl), [.tmp (nat_lit 44)], (some (nat_lit 45)), (some ((nat_lit 43), false))⟩,
  .ins ⟨(.p (.bini .eql)), [.tmp (nat_lit 45), .const (.int .i64 (.ofNat (nat_lit 0)))], (some (nat_lit 46)), (some ((nat_lit 43), false))⟩,
  .ins ⟨(.p .pick), [.tmp (nat_lit 43), .const (.bool true), .tmp (nat_lit 46)], (some (nat_lit 47)), none⟩])
 (.cond (.tmp (nat_lit 47)) (.exit (nat_lit 0))
 .skip))
 (.region [
  .ins ⟨(.r (.load false (nat_lit 1))), [.tmp (nat_lit 1)], (some (nat_lit 48)), none⟩,
  .ins ⟨(.p (.build [(.int .i64 (.ofNat (nat_lit 0))), (.int .i64 (.ofNat (nat_lit 0))), (.int .i64 (.ofNat (nat_lit 0))), (.slice none (nat_lit 0) (nat_lit 0) (nat_lit 0))] [((nat_lit 0), (nat_lit 1)), ((nat_lit 2), (nat_lit 1))])), [.const (.int .i64 (.ofNat (nat_lit 9))), .tmp (nat_lit 48)], (some (nat_lit 49)), none⟩,
  .ins ⟨(.l (.store (nat_lit 4))), [.tmp (nat_lit 6), .tmp (nat_lit 49)], none, none⟩]))))))))))))))⟩

def c254 : Code' := .fn ⟨(nat_lit 62), [.tmp (nat_lit 2), .tmp (nat_lit 3)],
 (.seq (.region [
  .ins ⟨(.a .box), [.tmp (nat_lit 0)], (some (nat_lit 1)), none⟩,
  .ins ⟨(.p .mv), [.const (.slice none (nat_lit 0) (nat_lit 0) (nat_lit 0))], (some (nat_lit 2)), none⟩,
  .ins ⟨(.p .mv), [.const (.int .i64 (.ofNat (nat_lit 0)))], (some (nat_lit 3)), none⟩])
 (.seq (.seq (.region [
  .ins ⟨(.p (.fieldAddr (nat_lit 0))), [.tmp (nat_lit 1)], (some (nat_lit 5)), none⟩,
  .ins ⟨(.r (.load false (nat_lit 1))), [.tmp (nat_lit 5)], (some (nat_lit 6)), none⟩,
  .ins ⟨(.p (.bini .lss)), [.tmp (nat_lit 6), .const (.int .i64 (.ofNat (nat_lit 0)))], (some (nat_lit 7)), none⟩,
  .ins ⟨(.p .mv), [.tmp (nat_lit 7)], (some (nat_lit 8)), none⟩,
  .ins ⟨(.p (.fieldAddr (nat_lit 0))), [.tmp (nat_lit 1)], (some (nat_lit 9)), (some ((nat_lit 8), false))⟩,
  .ins ⟨(.r (.load false (nat_lit 1))), [.tmp (nat_lit 9)], (some (nat_lit 10)), (some ((nat_lit 8), false))⟩,
  .ins ⟨(.p (.bini .gtr)), [.tmp (nat_lit 10), .const (.int .i64 (.ofNat (nat_lit 255)))], (some (nat_lit 11)), (some ((nat_lit 8), false))⟩,
  .ins ⟨(.p .pick), [.tmp (nat_lit 8), .const (.bool true), .tmp (nat_lit 11)], (some (nat_lit 12)), none⟩,
  .ins ⟨(.p .mv), [.tmp (nat_lit 12)], (some (nat_lit 13)), none⟩,
  .ins ⟨(.p (.fieldAddr (nat_lit 1))), [.tmp (nat_lit 1)], (some (nat_lit 14)), (some ((nat_lit 13), false))⟩,
  .ins ⟨(.r (.load false (nat_lit 1))), [.tmp (nat_lit 14)], (some (nat_lit 15)), (some ((nat_lit 13), false))⟩,
  .ins ⟨(.p (.bini .lss)), [.tmp (nat_lit 15), .const (.int .i64 (.ofNat (nat_lit 0)))], (some (nat_lit 16)), (some ((nat_lit 13), false))⟩,
  .ins ⟨(.p .pick), [.tmp (nat_lit 13), .const (.bool true), .tmp (nat_lit 16)], (some (nat_lit 17)), none⟩,
  .ins ⟨(.p .mv), [.tmp (nat_lit 17)], (some (nat_lit 18)), none⟩,
  .ins ⟨(.p (.fieldAddr (nat_lit 1))), [.tmp (nat_lit 1)], (some (nat_lit 19)), (some ((nat_lit 18), false))⟩,
  .ins ⟨(.r (.load false (nat_lit 1))), [.tmp (nat_lit 19)], (some (nat_lit 20)), (some ((nat_lit 18), false))⟩,
  .ins ⟨(.p (.bini .gtr)), [.tmp (nat_lit 20), .const (.int .i64 (.ofNat (nat_lit 255)))], (some (nat_lit 21)), (some ((nat_lit 18), false))⟩,
  .ins ⟨(.p .pick), [.tmp (nat_lit 18), .const (.bool true), .tmp (nat_lit 21)], (some (nat_lit 22)), none⟩,
  .ins ⟨(.p .mv), [.tmp (nat_lit 22)], (some (nat_lit 23)), none⟩,
  .ins ⟨(.p (.fieldAddr (nat_lit 2))), [.tmp (nat_lit 1)], (some (nat_lit 24)), (some ((nat_lit 23), false))⟩,
  .ins ⟨(.r (.load false (nat_lit 1))), [.tmp (nat_lit 24)], (some (nat_lit 25)), (some ((nat_lit 23), false))⟩,
  .ins ⟨(.p (.bini .lss)), [.tmp (nat_lit 25), .const (.int .i64 (.ofNat (nat_lit 0)))], (some (nat_lit 26)), (some ((nat_lit 23), false))⟩,
  .ins ⟨(.p .pick), [.tmp (nat_lit 23), .const (.bool true), .tmp (nat_lit 26)], (some (nat_lit 27)), none⟩,
  .ins ⟨(.p .mv), [.tmp (nat_lit 27)], (some (nat_lit 28)), none⟩,
  .ins ⟨(.p (.fieldAddr (nat_lit 2))), [.tmp (nat_lit 1)], (some (nat_lit 29)), (some ((nat_lit 28), false))⟩,
  .ins ⟨(.r (.load false (nat_lit 1))), [.tmp (nat_lit 29)], (some (nat_lit 30)), (some ((nat_lit 28), false))⟩,
  .ins ⟨(.p (.bini .gtr)), [.tmp (nat_lit 30), .const (.int .i64 (.ofNat (nat_lit 2147483647)))], (some (nat_lit 31)), (some ((nat_lit 28), false))⟩,
  .ins ⟨(.p .pick), [.tmp (nat_lit 28), .const (.bool true), .tmp (nat_lit 31)], (some (nat_lit 32)), none⟩])
 (.cond (.tmp (nat_lit 32)) (.seq (.region [
  .ins ⟨(.p .mv), [.const (.slice none (nat_lit 0) (nat_lit 0) (nat_lit 0))], (some (nat_lit 2)), none⟩,
  .ins ⟨(.p .mv), [.const (.int .i64 (.ofNat (nat_lit 1)))], (some (nat_lit 3)), none⟩])
 .ret)
 .skip))
 (.seq (.seq (.region [
  .ins ⟨(.p (.fieldAddr (nat_lit 3))), [.tmp (nat_lit 1)], (some (nat_lit 33)), none⟩,
  .ins ⟨(.r (.load false (nat_lit 1))), [.tmp (nat_lit 33)], (some (nat_lit 34)), none⟩,
  .ins ⟨(.p .lenSl), [.tmp (nat_lit 34)], (some (nat_lit 35)), none⟩,
  .ins ⟨(.p (.bini .gtr)), [.tmp (nat_lit 35), .const (.int .i64 (.ofNat (nat_lit 16777215)))], (some (nat_lit 36)), none⟩])
 (.cond (.tmp (nat_lit 36)) (.seq (.region [
  .ins ⟨(.p .mv), [.const (.slice none (nat_lit 0) (nat_lit 0) (nat_lit 0))], (some (nat_lit 2)), none⟩,
  .ins ⟨(.p .mv), [.const (.int .i64 (.ofNat (nat_lit 2)))], (some (nat_lit 3)), none⟩])
 .ret)
 .skip))
 (.seq (.region [
  .ins ⟨(.p (.fieldAddr (nat_lit 3))), [.tmp (nat_lit 1)], (some (nat_lit 37)), none⟩,
  .ins ⟨(.r (.load false (nat_lit 1))), [.tmp (nat_lit 37)], (some (nat_lit 38)), none⟩,
  .ins ⟨(.p .lenSl), [.tmp (nat_lit 38)], (some (nat_lit 39)), none⟩,
  .ins ⟨(.p (.bini .add)), [.const (.int .i64 (.ofNat (nat_lit 9))), .tmp (nat_lit 39)], (some (nat_lit 40)), none⟩,
  .ins ⟨(.a (.makeSlice [(.int .u8 (.ofNat (nat_lit 0)))] (nat_lit 1) (nat_lit 1))), [.const (.int .i64 (.ofNat (nat_lit 0))), .tmp (nat_lit 40)], (some (nat_lit 41)), none⟩,
  .ins ⟨(.p (.fieldAddr (nat_lit 3))), [.tmp (nat_lit 1)], (some (nat_lit 42)), none⟩,
  .ins ⟨(.r (.load false (nat_lit 1))), [.tmp (nat_lit 42)], (some (nat_lit 43)), none⟩,
  .ins ⟨(.p .lenSl), [.tmp (nat_lit 43)], (some (nat_lit 44)), none⟩,
  .ins ⟨(.c .value), [.const (.func (.func (nat_lit 294)) [] []), .tmp (nat_lit 41), .const (.int .i64 (.ofNat (nat_lit 3))), .tmp (nat_lit 44)], (some (nat_lit 45)), none⟩,
  .ins ⟨(.p .mv), [.tmp (nat_lit 45)], (some (nat_lit 4)), none⟩])
 (.seq (.region [
  .ins ⟨(.p .mv), [.tmp (nat_lit 4)], (some (nat_lit 46)), none⟩,
  .ins ⟨(.p (.fieldAddr (nat_lit 0))), [.tmp (nat_lit 1)], (some (nat_lit 47)), none⟩,
  .ins ⟨(.r (.load false (nat_lit 1))), [.tmp (nat_lit 47)], (some (nat_lit 48)), none⟩,
  .ins ⟨(.p (.convInt .u8)), [.tmp (nat_lit 48)], (some (nat_lit 49)), none⟩,
  .ins ⟨(.p (.fieldAddr (nat_lit 1))), [.tmp (nat_lit 1)], (some (nat_lit 50)), none⟩,
  .ins ⟨(.r (.load false (nat_lit 1))), [.tmp (nat_lit 50)], (some (nat_lit 51)), none⟩,
  .ins ⟨(.p (.convInt .u8)), [.tmp (nat_lit 51)], (some (nat_lit 52)), none⟩,
  .ins ⟨(.a (.buildSlice [(.int .u8 (.ofNat (nat_lit 0))), (.int .u8 (.ofNat (nat_lit 0)))] (nat_lit 2) [((nat_lit 0), (nat_lit 1)), ((nat_lit 1), (nat_lit 1))])), [.tmp (nat_lit 49), .tmp (nat_lit 52)], (some (nat_lit 53)), none⟩,
  .ins ⟨(.l (.append [(.int .u8 (.ofNat (nat_lit 0)))] (nat_lit 1) (nat_lit 1))), [.tmp (nat_lit 46), .tmp (nat_lit 53)], (some (nat_lit 54)), none⟩,
  .ins ⟨(.p .mv), [.tmp (nat_lit 54)], (some (nat_lit 4)), none⟩])
 (.seq (.region [
  .ins ⟨(.p .mv), [.tmp (nat_lit 4)], (some (nat_lit 55)), none⟩,
  .ins ⟨(.p (.fieldAddr (nat_lit 2))), [.tmp (nat_lit 1)], (some (nat_lit 56)), none⟩,
  .ins ⟨(.r (.load false (nat_lit 1))), [.tmp (nat_lit 56)], (some (nat_lit 57)), none⟩,
  .ins ⟨(.p (.fieldAddr (nat_lit 3))), [.tmp (nat_lit 1)], (some (nat_lit 59)), none⟩,
  .ins ⟨(.r (.load false (nat_lit 1))), [.tmp (nat_lit 59)], (some (nat_lit 60)), none⟩,
  .ins ⟨(.c .value), [.const (.func (.func (nat_lit 294)) [] []), .tmp (nat_lit 55), .const (.int .i64 (.ofNat (nat_lit 4))), .tmp (nat_lit 57)], (some (nat_lit 58)), none⟩,
  .again ⟨(.r (.load false (nat_lit 1))), [.tmp (nat_lit 59)], (some (nat_lit 60)), none⟩,
  .ins ⟨(.l (.append [(.int .u8 (.ofNat (nat_lit 0)))] (nat_lit 1) (nat_lit 1))), [.tmp (nat_lit 58), .tmp (nat_lit 60)], (some (nat_lit 61)), none⟩,
  .ins ⟨(.p .mv), [.tmp (nat_lit 61)], (some (nat_lit 2)), none⟩,
  .ins ⟨(.p .mv), [.const (.int .i64 (.ofNat (nat_lit 0)))], (some (nat_lit 3)), none⟩])
 .ret))))))⟩

def c255 : Code' := .fn ⟨(nat_lit 15), [.tmp (nat_lit 6)],
 (.seq (.region [
  .ins ⟨(.p .mv), [.const (.bool false)], (some (nat_lit 6)), none⟩])
 (.seq (.region [
  .ins ⟨(.p .mv), [.tmp (nat_lit 0)], (some (nat_lit 7)), none⟩,
  .ins ⟨(.p .mv), [.tmp (nat_lit 1)], (some (nat_lit 8)), none⟩,
  .ins ⟨(.p (.bini .geq)), [.tmp (nat_lit 7), .tmp (nat_lit 8)], (some (nat_lit 9)), none⟩,
  .ins ⟨(.p .mv), [.tmp (nat_lit 9)], (some (nat_lit 10)), none⟩,
  .ins ⟨(.p .mv), [.tmp (nat_lit 0)], (some (nat_lit 11)), (some ((nat_lit 10), true))⟩,
  .ins ⟨(.p .mv), [.tmp (nat_lit 2)], (some (nat_lit 12)), (some ((nat_lit 10), true))⟩,
  .ins ⟨(.p (.bini .leq)), [.tmp (nat_lit 11), .tmp (nat_lit 12)], (some (nat_lit 13)), (some ((nat_lit 10), true))⟩,
  .ins ⟨(.p .pick), [.tmp (nat_lit 10), .tmp (nat_lit 13), .const (.bool false)], (some (nat_lit 14)), none⟩,
  .ins ⟨(.p .mv), [.tmp (nat_lit 14)], (some (nat_lit 6)), none⟩])
 .ret))⟩

def c257 : Code' := .fn ⟨(nat_lit 13), [.tmp (nat_lit 2)],
 (.seq (.region [
  .ins ⟨(.p .mv), [.const (.bool false)], (some (nat_lit 2)), none⟩])
 (.seq (.region [
  .ins ⟨(.p .mv), [.tmp (nat_lit 0)], (some (nat_lit 3)), none⟩,
  .ins ⟨(.p (.bini .eql)), [.tmp (nat_lit 3), .const (.int .i64 (.ofNat (nat_lit 0)))], (some (nat_lit 4)), none⟩,
  .ins ⟨(.p .mv), [.tmp (nat_lit 4)], (some (nat_lit 5)), none⟩,
  .ins ⟨(.p .mv), [.tmp (nat_lit 0)], (some (nat_lit 6)), (some ((nat_lit 5), false))⟩,
  .ins ⟨(.p (.bini .eql)), [.tmp (nat_lit 6), .const (.int .i64 (.ofNat (nat_lit 1)))], (some (nat_lit 7)), (some ((nat_lit 5), false))⟩,
  .ins ⟨(.p .pick), [.tmp (nat_lit 5), .const (.bool true), .tmp (nat_lit 7)], (some (nat_lit 8)), none⟩,
  .ins ⟨(.p .mv), [.tmp (nat_lit 8)], (some (nat_lit 9)), none⟩,
  .ins ⟨(.p .mv), [.tmp (nat_lit 0)], (some (nat_lit 10)), (some ((nat_lit 9), false))⟩,
  .ins ⟨(.p (.bini .eql)), [.tmp (nat_lit 10), .const (.int .i64 (.ofNat (nat_lit 5)))], (some (nat_lit 11)), (some ((nat_lit 9), false))⟩,
  .ins ⟨(.p .pick), [.tmp (nat_lit 9), .const (.bool true), .tmp (nat_lit 11)], (some (nat_lit 12)), none⟩,
  .ins ⟨(.p .mv), [.tmp (nat_lit 12)], (some (nat_lit 2)), none⟩])
 .ret))⟩

def c258 : Code' := .fn ⟨(nat_lit 9), [.tmp (nat_lit 2)],
 (.seq (.region [
  .ins ⟨(.p .mv), [.const (.bool false)], (some (nat_lit 2)), none⟩])
 (.seq (.region [
  .ins ⟨(.p .mv), [.tmp (nat_lit 0)], (some (nat_lit 3)), none⟩,
  .ins ⟨(.p (.bini .geq)), [.tmp (nat_lit 3), .const (.int .i64 (.ofNat (nat_lit 0)))], (some (nat_lit 4)), none⟩,
  .ins ⟨(.p .mv), [.tmp (nat_lit 4)], (some (nat_lit 5)), none⟩,
  .ins ⟨(.p .mv), [.tmp (nat_lit 0)], (some (nat_lit 6)), (some ((nat_lit 5), true))⟩,
  .ins ⟨(.p (.bini .leq)), [.tmp (nat_lit 6), .const (.int .i64 (.ofNat (nat_lit 2147483647)))], (some (nat_lit 7)), (some ((nat_lit 5), true))⟩,
  .ins ⟨(.p .pick), [.tmp (nat_lit 5), .tmp (nat_lit 7), .const (.bool false)], (some (nat_lit 8)), none⟩,
  .ins ⟨(.p .mv), [.tmp (nat_lit 8)], (some (nat_lit 2)), none⟩])
 .ret))⟩

def c259 : Code' := .fn ⟨(nat_lit 134), [.tmp (nat_lit 8), .tmp (nat_lit 9)],
 (.seq (.region [
  .ins ⟨(.a .box), [.tmp (nat_lit 3)], (some (nat_lit 7)), none⟩,
  .ins ⟨(.p .mv), [.const (.slice none (nat_lit 0) (nat_lit 0) (nat_lit 0))], (some (nat_lit 8)), none⟩,
  .ins ⟨(.p .mv), [.const (.bool false)], (some (nat_lit 9)), none⟩])
 (.seq (.seq (.region [
  .ins ⟨(.p .mv), [.tmp (nat_lit 1)], (some (nat_lit 13)), none⟩])
 (.block (nat_lit 0) (.seq (.seq (.region [
  .ins ⟨(.p (.bini .eql)), [.tmp (nat_lit 13), .const (.int .i64 (.ofNat (nat_lit 0)))], (some (nat_lit 15)), none⟩,
  .ins ⟨(.p .mv), [.tmp (nat_lit 15)], (some (nat_lit 14)), none⟩])
 (.cond (.tmp (nat_lit 14)) .skip
 (.region [
  .ins ⟨(.p (.bini .eql)), [.tmp (nat_lit 13), .const (.int .i64 (.ofNat (nat_lit 9)))], (some (nat_lit 16)), none⟩,
  .ins ⟨(.p .mv), [.tmp (nat_lit 16)], (some (nat_lit 14)), none⟩])))
 (.cond (.tmp (nat_lit 14)) (.seq (.region [
  .ins ⟨(.p .mv), [.tmp (nat_lit 0)], (some (nat_lit 17)), none⟩,
  .ins ⟨(.p (.fieldAddr (nat_lit 0))), [.tmp (nat_lit 7)], (some (nat_lit 18)), none⟩,
  .ins ⟨(.r (.load false (nat_lit 1))), [.tmp (nat_lit 18)], (some (nat_lit 19)), none⟩,
  .ins ⟨(.l (.append [(.int .u8 (.ofNat (nat_lit 0)))] (nat_lit 1) (nat_lit 1))), [.tmp (nat_lit 17), .tmp (nat_lit 19)], (some (nat_lit 20)), none⟩,
  .ins ⟨(.p .mv), [.tmp (nat_lit 20)], (some (nat_lit 8)), none⟩,
  .ins ⟨(.p .mv), [.const (.bool true)], (some (nat_lit 9)), none⟩])
 .ret)
 (.seq (.region [
  .ins ⟨(.p (.bini .eql)), [.tmp (nat_lit 13), .const (.int .i64 (.ofNat (nat_lit 1)))], (some (nat_lit 22)), none⟩,
  .ins ⟨(.p .mv), [.tmp (nat_lit 22)], (some (nat_lit 21)), none⟩])
 (.cond (.tmp (nat_lit 21)) (.seq (.region [
  .ins ⟨(.p .mv), [.const (.bool true)], (some (nat_lit 10)), none⟩])
 (.seq (.seq (.region [
  .ins ⟨(.p .mv), [.tmp (nat_lit 2)], (some (nat_lit 23)), none⟩,
  .ins ⟨(.p (.bini .and)), [.tmp (nat_lit 23), .const (.int .i64 (.ofNat (nat_lit 32)))], (some (nat_lit 24)), none⟩,
  .ins ⟨(.p (.bini .neq)), [.tmp (nat_lit 24), .const (.int .i64 (.ofNat (nat_lit 0)))], (some (nat_lit 25)), none⟩])
 (.cond (.tmp (nat_lit 25)) (.region [
  .ins ⟨(.p .mv), [.tmp (nat_lit 0)], (some (nat_lit 27)), none⟩,
  .ins ⟨(.r (.load true (nat_lit 11))), [.tmp (nat_lit 7)], (some (nat_lit 28)), none⟩,
  .ins ⟨(.c .value), [.const (.func (.func (nat_lit 295)) [] []), .tmp (nat_lit 27), .tmp (nat_lit 28)], (some (nat_lit 29)), none⟩,
  .ins ⟨(.p .mv), [.tmp (nat_lit 29)], (some (nat_lit 26)), none⟩,
  .ins ⟨(.p (.extract (nat_lit 0))), [.tmp (nat_lit 26)], (some (nat_lit 30)), none⟩,
  .ins ⟨(.p (.extract (nat_lit 1))), [.tmp (nat_lit 26)], (some (nat_lit 31)), none⟩,
  .ins ⟨(.p .mv), [.tmp (nat_lit 30)], (some (nat_lit 0)), none⟩,
  .ins ⟨(.p .mv), [.tmp (nat_lit 31)], (some (nat_lit 10)), none⟩])
 .skip))
 (.seq (.region [
  .ins ⟨(.p .mv), [.tmp (nat_lit 0)], (some (nat_lit 32)), none⟩,
  .ins ⟨(.p (.fieldAddr (nat_lit 0))), [.tmp (nat_lit 7)], (some (nat_lit 33)), none⟩,
  .ins ⟨(.r (.load false (nat_lit 1))), [.tmp (nat_lit 33)], (some (nat_lit 34)), none⟩,
  .ins ⟨(.l (.append [(.int .u8 (.ofNat (nat_lit 0)))] (nat_lit 1) (nat_lit 1))), [.tmp (nat_lit 32), .tmp (nat_lit 34)], (some (nat_lit 35)), none⟩,
  .ins ⟨(.p .mv), [.tmp (nat_lit 10)], (some (nat_lit 36)), none⟩,
  .ins ⟨(.p .mv), [.tmp (nat_lit 35)], (some (nat_lit 8)), none⟩,
  .ins ⟨(.p .mv), [.tmp (nat_lit 36)], (some (nat_lit 9)), none⟩])
 .ret)))
 (.seq (.region [
  .ins ⟨(.p (.bini .eql)), [.tmp (nat_lit 13), .const (.int .i64 (.ofNat (nat_lit 2)))], (some (nat_lit 38)), none⟩,
  .ins ⟨(.p .mv), [.tmp (nat_lit 38)], (some (nat_lit 37)), none⟩])
 (.cond (.tmp (nat_lit 37)) (.seq (.region [
  .ins ⟨(.p .mv), [.tmp (nat_lit 0)], (some (nat_lit 39)), none⟩,
  .ins ⟨(.r (.load true (nat_lit 11))), [.tmp (nat_lit 7)], (some (nat_lit 40)), none⟩,
  .ins ⟨(.c .value), [.const (.func (.func (nat_lit 295)) [] []), .tmp (nat_lit 39), .tmp (nat_lit 40)], (some (nat_lit 41)), none⟩,
  .ins ⟨(.p (.extract (nat_lit 0))), [.tmp (nat_lit 41)], (some (nat_lit 42)), none⟩,
  .ins ⟨(.p (.extract (nat_lit 1))), [.tmp (nat_lit 41)], (some (nat_lit 43)), none⟩,
  .ins ⟨(.p .mv), [.tmp (nat_lit 42)], (some (nat_lit 8)), none⟩,
  .ins ⟨(.p .mv), [.tmp (nat_lit 43)], (some (nat_lit 9)), none⟩])
 .ret)
 (.seq (.region [
  .ins ⟨(.p (.bini .eql)), [.tmp (nat_lit 13), .const (.int .i64 (.ofNat (nat_lit 3)))], (some (nat_lit 45)), none⟩,
  .ins ⟨(.p .mv), [.tmp (nat_lit 45)], (some (nat_lit 44)), none⟩])
 (.cond (.tmp (nat_lit 44)) (.seq (.region [
  .ins ⟨(.p .mv), [.tmp (nat_lit 0)], (some (nat_lit 46)), none⟩,
  .ins ⟨(.p (.fieldAddr (nat_lit 6))), [.tmp (nat_lit 7)], (some (nat_lit 47)), none⟩,
  .ins ⟨(.r (.load false (nat_lit 1))), [.tmp (nat_lit 47)], (some (nat_lit 48)), none⟩,
  .ins ⟨(.p (.fieldAddr (nat_lit 6))), [.tmp (nat_lit 7)], (some (nat_lit 50)), none⟩,
  .ins ⟨(.r (.load false (nat_lit 1))), [.tmp (nat_lit 50)], (some (nat_lit 51)), none⟩,
  .ins ⟨(.c .value), [.const (.func (.func (nat_lit 294)) [] []), .tmp (nat_lit 46), .const (.int .i64 (.ofNat (nat_lit 4))), .tmp (nat_lit 48)], (some (nat_lit 49)), none⟩,
  .again ⟨(.r (.load false (nat_lit 1))), [.tmp (nat_lit 50)], (some (nat_lit 51)), none⟩,
  .ins ⟨(.c .value), [.const (.func (.func (nat_lit 296)) [] []), .tmp (nat_lit 51)], (some (nat_lit 52)), none⟩,
  .ins ⟨(.p .mv), [.tmp (nat_lit 49)], (some (nat_lit 8)), none⟩,
  .ins ⟨(.p .mv), [.tmp (nat_lit 52)], (some (nat_lit 9)), none⟩])
 .ret)
 (.seq (.region [
  .ins ⟨(.p (.bini .eql)), [.tmp (nat_lit 13), .const (.int .i64 (.ofNat (nat_lit 4)))], (some (nat_lit 54)), none⟩,
  .ins ⟨(.p .mv), [.tmp (nat_lit 54)], (some (nat_lit 53)), none⟩])
 (.cond (.tmp (nat_lit 53)) (.seq (.seq (.region [
  .ins ⟨(.p (.fieldAddr (nat_lit 9))), [.tmp (nat_lit 7)], (some (nat_lit 55)), none⟩,
  .ins ⟨(.r (.load false (nat_lit 1))), [.tmp (nat_lit 55)], (some (nat_lit 56)), none⟩,
  .ins ⟨(.p .lenSl), [.tmp (nat_lit 56)], (some (nat_lit 57)), none⟩,
  .ins ⟨(.p .mv), [.const (.int .i64 (.ofNat (nat_lit 0)))], (some (nat_lit 58)), none⟩])
 (.block (nat_lit 1) (.loop (.seq (.region [
  .ins ⟨(.p (.bini .lss)), [.tmp (nat_lit 58), .tmp (nat_lit 57)], (some (nat_lit 59)), none⟩])
 (.seq (.cond (.tmp (nat_lit 59)) .skip
 (.exit (nat_lit 1)))
 (.seq (.block (nat_lit 2) (.seq (.region [
  .ins ⟨(.p (.indexAddr (nat_lit 2))), [.tmp (nat_lit 56), .tmp (nat_lit 58)], (some (nat_lit 60)), none⟩,
  .ins ⟨(.r (.load true (nat_lit 2))), [.tmp (nat_lit 60)], (some (nat_lit 61)), none⟩,
  .ins ⟨(.a (.alloc [(.int .i64 (.ofNat (nat_lit 0))), (.int .i64 (.ofNat (nat_lit 0)))])), [], (some (nat_lit 12)), none⟩,
  .ins ⟨(.l (.store (nat_lit 2))), [.tmp (nat_lit 12), .tmp (nat_lit 61)], none, none⟩])
 (.seq (.seq (.region [
  .ins ⟨(.p (.fieldAddr (nat_lit 0))), [.tmp (nat_lit 12)], (some (nat_lit 62)), none⟩,
  .ins ⟨(.r (.load false (nat_lit 1))), [.tmp (nat_lit 62)], (some (nat_lit 63)), none⟩,
  .ins ⟨(.p (.bini .lss)), [.tmp (nat_lit 63), .const (.int .i64 (.ofNat (nat_lit 0)))], (some (nat_lit 64)), none⟩,
  .ins ⟨(.p .mv), [.tmp (nat_lit 64)], (some (nat_lit 65)), none⟩,
  .ins ⟨(.p (.fieldAddr (nat_lit 0))), [.tmp (nat_lit 12)], (some (nat_lit 66)), (some ((nat_lit 65), false))⟩,
  .ins ⟨(.r (.load false (nat_lit 1))), [.tmp (nat_lit 66)], (some (nat_lit 67)), (some ((nat_lit 65), false))⟩,
  .ins ⟨(.p (.bini .gtr)), [.tmp (nat_lit 67), .const (.int .i64 (.ofNat (nat_lit 65535)))], (some (nat_lit 68)), (some ((nat_lit 65), false))⟩,
  .ins ⟨(.p .pick), [.tmp (nat_lit 65), .const (.bool true), .tmp (nat_lit 68)], (some (nat_lit 69)), none⟩,
  .ins ⟨(.p .mv), [.tmp (nat_lit 69)], (some (nat_lit 70)), none⟩,
  .ins ⟨(.p (.fieldAddr (nat_lit 1))), [.tmp (nat_lit 12)], (some (nat_lit 71)), (some ((nat_lit 70), false))⟩,
  .ins ⟨(.r (.load false (nat_lit 1))), [.tmp (nat_lit 71)], (some (nat_lit 72)), (some ((nat_lit 70), false))⟩,
  .ins ⟨(.c .value), [.const (.func (.func (nat_lit 296)) [] []), .tmp (nat_lit 72)], (some (nat_lit 73)), (some ((nat_lit 70), false))⟩,
  .ins ⟨(.p (.un .not)), [.tmp (nat_lit 73)], (some (nat_lit 74)), (some ((nat_lit 70), false))⟩,
  .ins ⟨(.p .pick), [.tmp (nat_lit 70), .const (.bool true), .tmp (nat_lit 74)], (some (nat_lit 75)), none⟩])
 (.cond (.tmp (nat_lit 75)) (.seq (.region [
  .ins ⟨(.p .mv), [.const (.slice none (nat_lit 0) (nat_lit 0) (nat_lit 0))], (some (nat_lit 8)), none⟩,
  .ins ⟨(.p .mv), [.const (.bool false)], (some (nat_lit 9)), none⟩])
 .ret)
 .skip))
 (.region [
  .ins ⟨(.p .mv), [.tmp (nat_lit 0)], (some (nat_lit 76)), none⟩,
  .ins ⟨(.p (.fieldAddr (nat_lit 0))), [.tmp (nat_lit 12)], (some (nat_lit 77)), none⟩,
  .ins ⟨(.r (.load false (nat_lit 1))), [.tmp (nat_lit 77)], (some (nat_lit 78)), none⟩,
  .ins ⟨(.p (.fieldAddr (nat_lit 1))), [.tmp (nat_lit 12)], (some (nat_lit 80)), none⟩,
  .ins ⟨(.r (.load false (nat_lit 1))), [.tmp (nat_lit 80)], (some (nat_lit 81)), none⟩,
  .ins ⟨(.c .value), [.const (.func (.func (nat_lit 294)) [] []), .tmp (nat_lit 76), .const (.int .i64 (.ofNat (nat_lit 2))), .tmp (nat_lit 78)], (some (nat_lit 79)), none⟩,
  .again ⟨(.r (.load false (nat_lit 1))), [.tmp (nat_lit 80)], (some (nat_lit 81)), none⟩,
  .ins ⟨(.c .value), [.const (.func (.func (nat_lit 294)) [] []), .tmp (nat_lit 79), .const (.int .i64 (.ofNat (nat_lit 4))), .tmp (nat_lit 81)], (some (nat_lit 82)), none⟩,
  .ins ⟨(.p .mv), [.tmp (nat_lit 82)], (some (nat_lit 0)), none⟩]))))
 (.region [
  .ins ⟨(.p (.bini .add)), [.tmp (nat_lit 58), .const (.int .i64 (.ofNat (nat_lit 1)))], (some (nat_lit 83)), none⟩,
  .ins ⟨(.p .mv), [.tmp (nat_lit 83)], (some (nat_lit 58)), none⟩])))))))
 (.seq (.region [
  .ins ⟨(.p .mv), [.tmp (nat_lit 0)], (some (nat_lit 84)), none⟩,
  .ins ⟨(.p .mv), [.tmp (nat_lit 84)], (some (nat_lit 8)), none⟩,
  .ins ⟨(.p .mv), [.const (.bool true)], (some (nat_lit 9)), none⟩])
 .ret))
 (.seq (.region [
  .ins ⟨(.p (.bini .eql)), [.tmp (nat_lit 13), .const (.int .i64 (.ofNat (nat_lit 5)))], (some (nat_lit 86)), none⟩,
  .ins ⟨(.p .mv), [.tmp (nat_lit 86)], (some (nat_lit 85)), none⟩])
 (.cond (.tmp (nat_lit 85)) (.seq (.region [
  .ins ⟨(.p .mv), [.tmp (nat_lit 0)], (some (nat_lit 87)), none⟩,
  .ins ⟨(.p (.fieldAddr (nat_lit 10))), [.tmp (nat_lit 7)], (some (nat_lit 88)), none⟩,
  .ins ⟨(.r (.load false (nat_lit 1))), [.tmp (nat_lit 88)], (some (nat_lit 89)), none⟩,
  .ins ⟨(.p (.fieldAddr (nat_lit 0))), [.tmp (nat_lit 7)], (some (nat_lit 91)), none⟩,
  .ins ⟨(.r (.load false (nat_lit 1))), [.tmp (nat_lit 91)], (some (nat_lit 92)), none⟩,
  .ins ⟨(.p (.fieldAddr (nat_lit 10))), [.tmp (nat_lit 7)], (some (nat_lit 94)), none⟩,
  .ins ⟨(.r (.load false (nat_lit 1))), [.tmp (nat_lit 94)], (some (nat_lit 95)), none⟩,
  .ins ⟨(.c .value), [.const (.func (.func (nat_lit 294)) [] []), .tmp (nat_lit 87), .const (.int .i64 (.ofNat (nat_lit 4))), .tmp (nat_lit 89)], (some (nat_lit 90)), none⟩,
  .again ⟨(.r (.load false (nat_lit 1))), [.tmp (nat_lit 91)], (some (nat_lit 92)), none⟩,
  .again ⟨(.r (.load false (nat_lit 1))), [.tmp (nat_lit 94)], (some (nat_lit 95)), none⟩,
  .ins ⟨(.l (.append [(.int .u8 (.ofNat (nat_lit 0)))] (nat_lit 1) (nat_lit 1))), [.tmp (nat_lit 90), .tmp (nat_lit 92)], (some (nat_lit 93)), none⟩,
  .again ⟨(.r (.load false (nat_lit 1))), [.tmp (nat_lit 94)], (some (nat_lit 95)), none⟩,
  .ins ⟨(.c .value), [.const (.func (.func (nat_lit 258)) [] []), .tmp (nat_lit 95)], (some (nat_lit 96)), none⟩,
  .ins ⟨(.p .mv), [.tmp (nat_lit 93)], (some (nat_lit 8)), none⟩,
  .ins ⟨(.p .mv), [.tmp (nat_lit 96)], (some (nat_lit 9)), none⟩])
 .ret)
 (.seq (.region [
  .ins ⟨(.p (.bini .eql)), [.tmp (nat_lit 13), .const (.int .i64 (.ofNat (nat_lit 6)))], (some (nat_lit 98)), none⟩,
  .ins ⟨(.p .mv), [.tmp (nat_lit 98)], (some (nat_lit 97)), none⟩])
 (.cond (.tmp (nat_lit 97)) (.seq (.region [
  .ins ⟨(.p .mv), [.tmp (nat_lit 0)], (some (nat_lit 99)), none⟩,
  .ins ⟨(.p (.fieldAddr (nat_lit 0))), [.tmp (nat_lit 7)], (some (nat_lit 100)), none⟩,
  .ins ⟨(.r (.load false (nat_lit 1))), [.tmp (nat_lit 100)], (some (nat_lit 101)), none⟩,
  .ins ⟨(.p (.fieldAddr (nat_lit 0))), [.tmp (nat_lit 7)], (some (nat_lit 103)), none⟩,
  .ins ⟨(.r (.load false (nat_lit 1))), [.tmp (nat_lit 103)], (some (nat_lit 104)), none⟩,
  .ins ⟨(.p .lenSl), [.tmp (nat_lit 104)], (some (nat_lit 105)), none⟩,
  .ins ⟨(.p (.bini .eql)), [.tmp (nat_lit 105), .const (.int .i64 (.ofNat (nat_lit 8)))], (some (nat_lit 106)), none⟩,
  .ins ⟨(.l (.append [(.int .u8 (.ofNat (nat_lit 0)))] (nat_lit 1) (nat_lit 1))), [.tmp (nat_lit 99), .tmp (nat_lit 101)], (some (nat_lit 102)), none⟩,
  .ins ⟨(.p .mv), [.tmp (nat_lit 102)], (some (nat_lit 8)), none⟩,
  .ins ⟨(.p .mv), [.tmp (nat_lit 106)], (some (nat_lit 9)), none⟩,
  .again ⟨(.r (.load false (nat_lit 1))), [.tmp (nat_lit 103)], (some (nat_lit 104)), none⟩])
 .ret)
 (.seq (.region [
  .ins ⟨(.p (.bini .eql)), [.tmp (nat_lit 13), .const (.int .i64 (.ofNat (nat_lit 7)))], (some (nat_lit 108)), none⟩,
  .ins ⟨(.p .mv), [.tmp (nat_lit 108)], (some (nat_lit 107)), none⟩])
 (.cond (.tmp (nat_lit 107)) (.seq (.region [
  .ins ⟨(.p .mv), [.tmp (nat_lit 0)], (some (nat_lit 109)), none⟩,
  .ins ⟨(.p (.fieldAddr (nat_lit 7))), [.tmp (nat_lit 7)], (some (nat_lit 110)), none⟩,
  .ins ⟨(.r (.load false (nat_lit 1))), [.tmp (nat_lit 110)], (some (nat_lit 111)), none⟩,
  .ins ⟨(.p (.fieldAddr (nat_lit 6))), [.tmp (nat_lit 7)], (some (nat_lit 113)), none⟩,
  .ins ⟨(.r (.load false (nat_lit 1))), [.tmp (nat_lit 113)], (some (nat_lit 114)), none⟩,
  .ins ⟨(.p (.fieldAddr (nat_lit 0))), [.tmp (nat_lit 7)], (some (nat_lit 116)), none⟩,
  .ins ⟨(.r (.load false (nat_lit 1))), [.tmp (nat_lit 116)], (some (nat_lit 117)), none⟩,
  .ins ⟨(.p (.fieldAddr (nat_lit 7))), [.tmp (nat_lit 7)], (some (nat_lit 119)), none⟩,
  .ins ⟨(.r (.load false (nat_lit 1))), [.tmp (nat_lit 119)], (some (nat_lit 120)), none⟩,
  .ins ⟨(.c .value), [.const (.func (.func (nat_lit 294)) [] []), .tmp (nat_lit 109), .const (.int .i64 (.ofNat (nat_lit 4))), .tmp (nat_lit 111)], (some (nat_lit 112)), none⟩,
  .again ⟨(.r (.load false (nat_lit 1))), [.tmp (nat_lit 113)], (some (nat_lit 114)), none⟩,
  .again ⟨(.r (.load false (nat_lit 1))), [.tmp (nat_lit 116)], (some (nat_lit 117)), none⟩,
  .again ⟨(.r (.load false (nat_lit 1))), [.tmp (nat_lit 119)], (some (nat_lit 120)), none⟩,
  .ins ⟨(.c .value), [.const (.func (.func (nat_lit 294)) [] []), .tmp (nat_lit 112), .const (.int .i64 (.ofNat (nat_lit 4))), .tmp (nat_lit 114)], (some (nat_lit 115)), none⟩,
  .again ⟨(.r (.load false (nat_lit 1))), [.tmp (nat_lit 116)], (some (nat_lit 117)), none⟩,
  .again ⟨(.r (.load false (nat_lit 1))), [.tmp (nat_lit 119)], (some (nat_lit 120)), none⟩,
  .ins ⟨(.l (.append [(.int .u8 (.ofNat (nat_lit 0)))] (nat_lit 1) (nat_lit 1))), [.tmp (nat_lit 115), .tmp (nat_lit 117)], (some (nat_lit 118)), none⟩,
  .again ⟨(.r (.load false (nat_lit 1))), [.tmp (nat_lit 119)], (some (nat_lit 120)), none⟩,
  .ins ⟨(.c .value), [.const (.func (.func (nat_lit 258)) [] []), .tmp (nat_lit 120)], (some (nat_lit 121)), none⟩,
  .ins ⟨(.p .mv), [.tmp (nat_lit 121)], (some (nat_lit 122)), none⟩,
  .ins ⟨(.p (.fieldAddr (nat_lit 6))), [.tmp (nat_lit 7)], (some (nat_lit 123)), (some ((nat_lit 122), true))⟩,
  .ins ⟨(.r (.load false (nat_lit 1))), [.tmp (nat_lit 123)], (some (nat_lit 124)), (some ((nat_lit 122), true))⟩,
  .ins ⟨(.c .value), [.const (.func (.func (nat_lit 296)) [] []), .tmp (nat_lit 124)], (some (nat_lit 125)), (some ((nat_lit 122), true))⟩,
  .ins ⟨(.p .pick), [.tmp (nat_lit 122), .tmp (nat_lit 125), .const (.bool false)], (some (nat_lit 126)), none⟩,
  .ins ⟨(.p .mv), [.tmp (nat_lit 118)], (some (nat_lit 8)), none⟩,
  .ins ⟨(.p .mv), [.tmp (nat_lit 126)], (some (nat_lit 9)), none⟩])
 .ret)
 .skip))))))))))))))))))
 (.seq (.region [
  .ins ⟨(.p .mv), [.tmp (nat_lit 0)], (some (nat_lit 127)), none⟩,
  .ins ⟨(.p (.fieldAddr (nat_lit 8))), [.tmp (nat_lit 7)], (some (nat_lit 128)), none⟩,
  .ins ⟨(.r (.load false (nat_lit 1))), [.tmp (nat_lit 128)], (some (nat_lit 129)), none⟩,
  .ins ⟨(.p (.fieldAddr (nat_lit 8))), [.tmp (nat_lit 7)], (some (nat_lit 131)), none⟩,
  .ins ⟨(.r (.load false (nat_lit 1))), [.tmp (nat_lit 131)], (some (nat_lit 132)), none⟩,
  .ins ⟨(.c .value), [.const (.func (.func (nat_lit 294)) [] []), .tmp (nat_lit 127), .const (.int .i64 (.ofNat (nat_lit 4))), .tmp (nat_lit 129)], (some (nat_lit 130)), none⟩,
  .again ⟨(.r (.load false (nat_lit 1))), [.tmp (nat_lit 131)], (some (nat_lit 132)), none⟩,
  .ins ⟨(.c .value), [.const (.func (.func (nat_lit 258)) [] []), .tmp (nat_lit 132)], (some (nat_lit 133)), none⟩,
  .ins ⟨(.p .mv), [.tmp (nat_lit 130)], (some (nat_lit 8)), none⟩,
  .ins ⟨(.p .mv), [.tmp (nat_lit 133)], (some (nat_lit 9)), none⟩])
 .ret)))⟩

def c263 : Code' := .fn ⟨(nat_lit 49), [.tmp (nat_lit 6), .tmp (nat_lit 7)],
 (.seq (.region [
  .ins ⟨(.p .mv), [.const (.int .i64 (.ofNat (nat_lit 0)))], (some (nat_lit 6)), none⟩,
  .ins ⟨(.p .mv), [.const (.bool false)], (some (nat_lit 7)), none⟩])
 (.seq (.region [
  .ins ⟨(.p .mv), [.tmp (nat_lit 0)], (some (nat_lit 12)), none⟩,
  .ins ⟨(.p .lenSl), [.tmp (nat_lit 12)], (some (nat_lit 13)), none⟩,
  .ins ⟨(.p .mv), [.tmp (nat_lit 13)], (some (nat_lit 8)), none⟩])
 (.seq (.region [
  .ins ⟨(.p .mv), [.tmp (nat_lit 8)], (some (nat_lit 14)), none⟩,
  .ins ⟨(.p .mv), [.const (.int .i64 (.ofNat (nat_lit 0)))], (some (nat_lit 9)), none⟩,
  .ins ⟨(.p .mv), [.tmp (nat_lit 14)], (some (nat_lit 10)), none⟩])
 (.seq (.block (nat_lit 0) (.loop (.seq (.seq (.region [
  .ins ⟨(.p .mv), [.tmp (nat_lit 9)], (some (nat_lit 15)), none⟩,
  .ins ⟨(.p .mv), [.tmp (nat_lit 10)], (some (nat_lit 16)), none⟩,
  .ins ⟨(.p (.bini .lss)), [.tmp (nat_lit 15), .tmp (nat_lit 16)], (some (nat_lit 17)), none⟩])
 (.cond (.tmp (nat_lit 17)) .skip
 (.exit (nat_lit 0))))
 (.block (nat_lit 1) (.seq (.region [
  .ins ⟨(.p .mv), [.tmp (nat_lit 9)], (some (nat_lit 18)), none⟩,
  .ins ⟨(.p .mv), [.tmp (nat_lit 10)], (some (nat_lit 19)), none⟩,
  .ins ⟨(.p (.bini .add)), [.tmp (nat_lit 18), .tmp (nat_lit 19)], (some (nat_lit 20)), none⟩,
  .ins ⟨(.p (.convInt .u64)), [.tmp (nat_lit 20)], (some (nat_lit 21)), none⟩,
  .ins ⟨(.p (.bini .shr)), [.tmp (nat_lit 21), .const (.int .u64 (.ofNat (nat_lit 1)))], (some (nat_lit 22)), none⟩,
  .ins ⟨(.p (.convInt .i64)), [.tmp (nat_lit 22)], (some (nat_lit 23)), none⟩,
  .ins ⟨(.p .mv), [.tmp (nat_lit 23)], (some (nat_lit 11)), none⟩])
 (.seq (.region [
  .ins ⟨(.p .mv), [.tmp (nat_lit 2)], (some (nat_lit 24)), none⟩,
  .ins ⟨(.p .mv), [.tmp (nat_lit 0)], (some (nat_lit 25)), none⟩,
  .ins ⟨(.p .mv), [.tmp (nat_lit 11)], (some (nat_lit 26)), none⟩,
  .ins ⟨(.p (.indexAddr (nat_lit 2))), [.tmp (nat_lit 25), .tmp (nat_lit 26)], (some (nat_lit 27)), none⟩,
  .ins ⟨(.r (.load true (nat_lit 2))), [.tmp (nat_lit 27)], (some (nat_lit 28)), none⟩,
  .ins ⟨(.p .mv), [.tmp (nat_lit 1)], (some (nat_lit 29)), none⟩,
  .ins ⟨(.c .value), [.tmp (nat_lit 24), .tmp (nat_lit 28), .tmp (nat_lit 29)], (some (nat_lit 30)), none⟩,
  .ins ⟨(.p (.bini .lss)), [.tmp (nat_lit 30), .const (.int .i64 (.ofNat (nat_lit 0)))], (some (nat_lit 31)), none⟩])
 (.cond (.tmp (nat_lit 31)) (.region [
  .ins ⟨(.p .mv), [.tmp (nat_lit 11)], (some (nat_lit 32)), none⟩,
  .ins ⟨(.p (.bini .add)), [.tmp (nat_lit 32), .const (.int .i64 (.ofNat (nat_lit 1)))], (some (nat_lit 33)), none⟩,
  .ins ⟨(.p .mv), [.tmp (nat_lit 33)], (some (nat_lit 9)), none⟩])
 (.region [
  .ins ⟨(.p .mv), [.tmp (nat_lit 11)], (some (nat_lit 34)), none⟩,
  .ins ⟨(.p .mv), [.tmp (nat_lit 34)], (some (nat_lit 10)), none⟩]))))))))
 (.seq (.region [
  .ins ⟨(.p .mv), [.tmp (nat_lit 9)], (some (nat_lit 35)), none⟩,
  .ins ⟨(.p .mv), [.tmp (nat_lit 9)], (some (nat_lit 36)), none⟩,
  .ins ⟨(.p .mv), [.tmp (nat_lit 8)], (some (nat_lit 37)), none⟩,
  .ins ⟨(.p (.bini .lss)), [.tmp (nat_lit 36), .tmp (nat_lit 37)], (some (nat_lit 38)), none⟩,
  .ins ⟨(.p .mv), [.tmp (nat_lit 38)], (some (nat_lit 39)), none⟩,
  .ins ⟨(.p .mv), [.tmp (nat_lit 2)], (some (nat_lit 40)), (some ((nat_lit 39), true))⟩,
  .ins ⟨(.p .mv), [.tmp (nat_lit 0)], (some (nat_lit 41)), (some ((nat_lit 39), true))⟩,
  .ins ⟨(.p .mv), [.tmp (nat_lit 9)], (some (nat_lit 42)), (some ((nat_lit 39), true))⟩,
  .ins ⟨(.p (.indexAddr (nat_lit 2))), [.tmp (nat_lit 41), .tmp (nat_lit 42)], (some (nat_lit 43)), (some ((nat_lit 39), true))⟩,
  .ins ⟨(.r (.load true (nat_lit 2))), [.tmp (nat_lit 43)], (some (nat_lit 44)), (some ((nat_lit 39), true))⟩,
  .ins ⟨(.p .mv), [.tmp (nat_lit 1)], (some (nat_lit 45)), (some ((nat_lit 39), true))⟩,
  .ins ⟨(.c .value), [.tmp (nat_lit 40), .tmp (nat_lit 44), .tmp (nat_lit 45)], (some (nat_lit 46)), (some ((nat_lit 39), true))⟩,
  .ins ⟨(.p (.bini .eql)), [.tmp (nat_lit 46), .const (.int .i64 (.ofNat (nat_lit 0)))], (some (nat_lit 47)), (some ((nat_lit 39), true))⟩,
  .ins ⟨(.p .pick), [.tmp (nat_lit 39), .tmp (nat_lit 47), .const (.bool false)], (some (nat_lit 48)), none⟩,
  .ins ⟨(.p .mv), [.tmp (nat_lit 35)], (some (nat_lit 6)), none⟩,
  .ins ⟨(.p .mv), [.tmp (nat_lit 48)], (some (nat_lit 7)), none⟩])
 .ret)))))⟩

def c264 : Code' := .fn ⟨(nat_lit 9), [.tmp (nat_lit 4)],
 (.seq (.region [
  .ins ⟨(.a .box), [.tmp (nat_lit 0)], (some (nat_lit 2)), none⟩,
  .ins ⟨(.p .mv), [.const (.int .i64 (.ofNat (nat_lit 0)))], (some (nat_lit 4)), none⟩])
 (.seq (.region [
  .ins ⟨(.p (.fieldAddr (nat_lit 0))), [.tmp (nat_lit 2)], (some (nat_lit 5)), none⟩,
  .ins ⟨(.r (.load false (nat_lit 1))), [.tmp (nat_lit 5)], (some (nat_lit 6)), none⟩,
  .ins ⟨(.p .mv), [.tmp (nat_lit 1)], (some (nat_lit 7)), none⟩,
  .ins ⟨(.c .value), [.const (.func (.func (nat_lit 265)) [] []), .tmp (nat_lit 6), .tmp (nat_lit 7)], (some (nat_lit 8)), none⟩,
  .ins ⟨(.p .mv), [.tmp (nat_lit 8)], (some (nat_lit 4)), none⟩])
 .ret))⟩

def c265 : Code' := .fn ⟨(nat_lit 20), [.tmp (nat_lit 4)],
 (.seq (.region [
  .ins ⟨(.p .mv), [.const (.int .i64 (.ofNat (nat_lit 0)))], (some (nat_lit 4)), none⟩])
 (.seq (.region [
  .ins ⟨(.p .mv), [.tmp (nat_lit 0)], (some (nat_lit 7)), none⟩,
  .ins ⟨(.c .value), [.const (.func (.func (nat_lit 299)) [] []), .tmp (nat_lit 7)], (some (nat_lit 8)), none⟩,
  .ins ⟨(.p .mv), [.tmp (nat_lit 8)], (some (nat_lit 5)), none⟩])
 (.seq (.region [
  .ins ⟨(.p .mv), [.tmp (nat_lit 1)], (some (nat_lit 9)), none⟩,
  .ins ⟨(.c .value), [.const (.func (.func (nat_lit 299)) [] []), .tmp (nat_lit 9)], (some (nat_lit 10)), none⟩,
  .ins ⟨(.p .mv), [.tmp (nat_lit 10)], (some (nat_lit 6)), none⟩])
 (.seq (.seq (.region [
  .ins ⟨(.p .mv), [.tmp (nat_lit 5)], (some (nat_lit 11)), none⟩])
 (.cond (.tmp (nat_lit 11)) (.seq (.seq (.region [
  .ins ⟨(.p .mv), [.tmp (nat_lit 6)], (some (nat_lit 12)), none⟩])
 (.cond (.tmp (nat_lit 12)) (.seq (.region [
  .ins ⟨(.p .mv), [.const (.int .i64 (.ofNat (nat_lit 0)))], (some (nat_lit 4)), none⟩])
 .ret)
 .skip))
 (.seq (.region [
  .ins ⟨(.p .mv), [.const (.int .i64 (.negSucc (nat_lit 0)))], (some (nat_lit 4)), none⟩])
 .ret))
 .skip))
 (.seq (.seq (.region [
  .ins ⟨(.p .mv), [.tmp (nat_lit 6)], (some (nat_lit 13)), none⟩])
 (.cond (.tmp (nat_lit 13)) (.seq (.region [
  .ins ⟨(.p .mv), [.const (.int .i64 (.ofNat (nat_lit 1)))], (some (nat_lit 4)), none⟩])
 .ret)
 .skip))
 (.seq (.seq (.region [
  .ins ⟨(.p .mv), [.tmp (nat_lit 0)], (some (nat_lit 14)), none⟩,
  .ins ⟨(.p .mv), [.tmp (nat_lit 1)], (some (nat_lit 15)), none⟩,
  .ins ⟨(.p (.bini .lss)), [.tmp (nat_lit 14), .tmp (nat_lit 15)], (some (nat_lit 16)), none⟩])
 (.cond (.tmp (nat_lit 16)) (.seq (.region [
  .ins ⟨(.p .mv), [.const (.int .i64 (.negSucc (nat_lit 0)))], (some (nat_lit 4)), none⟩])
 .ret)
 .skip))
 (.seq (.seq (.region [
  .ins ⟨(.p .mv), [.tmp (nat_lit 0)], (some (nat_lit 17)), none⟩,
  .ins ⟨(.p .mv), [.tmp (nat_lit 1)], (some (nat_lit 18)), none⟩,
  .ins ⟨(.p (.bini .gtr)), [.tmp (nat_lit 17), .tmp (nat_lit 18)], (some (nat_lit 19)), none⟩])
 (.cond (.tmp (nat_lit 19)) (.seq (.region [
  .ins ⟨(.p .mv), [.const (.int .i64 (.ofNat (nat_lit 1)))], (some (nat_lit 4)), none⟩])
 .ret)
 .skip))
 (.seq (.region [
  .ins ⟨(.p .mv), [.const (.int .i64 (.ofNat (nat_lit 0)))], (some (nat_lit 4)), none⟩])
 .ret))))))))⟩

def c267 : Code' := .fn ⟨(nat_lit 13), [.tmp (nat_lit 2), .tmp (nat_lit 3)],
 (.seq (.region [
  .ins ⟨(.p .mv), [.const (.ptr none)], (some (nat_lit 2)), none⟩,
  .ins ⟨(.p .mv), [.const (.int .i64 (.ofNat (nat_lit 0)))], (some (nat_lit 3)), none⟩])
 (.seq (.seq (.region [
  .ins ⟨(.p .mv), [.tmp (nat_lit 0)], (some (nat_lit 4)), none⟩,
  .ins ⟨(.p (.bini .lss)), [.tmp (nat_lit 4), .const (.int .i64 (.ofNat (nat_lit 0)))], (some (nat_lit 5)), none⟩,
  .ins ⟨(.p .mv), [.tmp (nat_lit 5)], (some (nat_lit 6)), none⟩,
  .ins ⟨(.p .mv), [.tmp (nat_lit 0)], (some (nat_lit 7)), (some ((nat_lit 6), false))⟩,
  .ins ⟨(.p (.bini .gtr)), [.tmp (nat_lit 7), .const (.int .i64 (.ofNat (nat_lit 65536)))], (some (nat_lit 8)), (some ((nat_lit 6), false))⟩,
  .ins ⟨(.p .pick), [.tmp (nat_lit 6), .const (.bool true), .tmp (nat_lit 8)], (some (nat_lit 9)), none⟩])
 (.cond (.tmp (nat_lit 9)) (.seq (.region [
  .ins ⟨(.p .mv), [.const (.ptr none)], (some (nat_lit 2)), none⟩,
  .ins ⟨(.p .mv), [.const (.int .i64 (.ofNat (nat_lit 1)))], (some (nat_lit 3)), none⟩])
 .ret)
 .skip))
 (.seq (.region [
  .ins ⟨(.p .mv), [.tmp (nat_lit 0)], (some (nat_lit 10)), none⟩,
  .ins ⟨(.p (.build [(.int .i64 (.ofNat (nat_lit 0))), (.int .i64 (.ofNat (nat_lit 0))), (.slice none (nat_lit 0) (nat_lit 0) (nat_lit 0))] [((nat_lit 0), (nat_lit 1))])), [.tmp (nat_lit 10)], (some (nat_lit 11)), none⟩,
  .ins ⟨(.a .box), [.tmp (nat_lit 11)], (some (nat_lit 12)), none⟩,
  .ins ⟨(.p .mv), [.tmp (nat_lit 12)], (some (nat_lit 2)), none⟩,
  .ins ⟨(.p .mv), [.const (.int .i64 (.ofNat (nat_lit 0)))], (some (nat_lit 3)), none⟩])
 .ret)))⟩

def c268 : Code' := .fn ⟨(nat_lit 30), [.tmp (nat_lit 4)],
 (.seq (.region [
  .ins ⟨(.p .mv), [.const (.slice none (nat_lit 0) (nat_lit 0) (nat_lit 0))], (some (nat_lit 4)), none⟩])
 (.seq (.region [
  .ins ⟨(.p .mv), [.tmp (nat_lit 1)], (some (nat_lit 6)), none⟩,
  .ins ⟨(.p .mv), [.tmp (nat_lit 0)], (some (nat_lit 7)), none⟩,
  .ins ⟨(.p .nilck), [.tmp (nat_lit 7)], (some (nat_lit 8)), none⟩,
  .ins ⟨(.p (.fieldAddr (nat_lit 0))), [.tmp (nat_lit 8)], (some (nat_lit 9)), none⟩,
  .ins ⟨(.r (.load false (nat_lit 1))), [.tmp (nat_lit 9)], (some (nat_lit 10)), none⟩,
  .ins ⟨(.p .lenSl), [.tmp (nat_lit 10)], (some (nat_lit 11)), none⟩,
  .ins ⟨(.p .min), [.tmp (nat_lit 6), .tmp (nat_lit 11)], (some (nat_lit 12)), none⟩,
  .ins ⟨(.p .mv), [.tmp (nat_lit 12)], (some (nat_lit 1)), none⟩])
 (.seq (.region [
  .ins ⟨(.p .mv), [.tmp (nat_lit 0)], (some (nat_lit 13)), none⟩,
  .ins ⟨(.p .nilck), [.tmp (nat_lit 13)], (some (nat_lit 14)), none⟩,
  .ins ⟨(.p (.fieldAddr (nat_lit 0))), [.tmp (nat_lit 14)], (some (nat_lit 15)), none⟩,
  .ins ⟨(.r (.load false (nat_lit 1))), [.tmp (nat_lit 15)], (some (nat_lit 16)), none⟩,
  .ins ⟨(.p .mv), [.tmp (nat_lit 1)], (some (nat_lit 17)), none⟩,
  .ins ⟨(.p (.slice (nat_lit 1) false true)), [.tmp (nat_lit 16), .tmp (nat_lit 17)], (some (nat_lit 18)), none⟩,
  .ins ⟨(.c .value), [.const (.func (.func (nat_lit 45)) [] []), .tmp (nat_lit 18)], (some (nat_lit 19)), none⟩,
  .ins ⟨(.p .mv), [.tmp (nat_lit 19)], (some (nat_lit 5)), none⟩])
 (.seq (.region [
  .ins ⟨(.p .mv), [.tmp (nat_lit 0)], (some (nat_lit 20)), none⟩,
  .ins ⟨(.p .mv), [.tmp (nat_lit 0)], (some (nat_lit 21)), none⟩,
  .ins ⟨(.p .nilck), [.tmp (nat_lit 21)], (some (nat_lit 22)), none⟩,
  .ins ⟨(.p (.fieldAddr (nat_lit 0))), [.tmp (nat_lit 22)], (some (nat_lit 23)), none⟩,
  .ins ⟨(.r (.load false (nat_lit 1))), [.tmp (nat_lit 23)], (some (nat_lit 24)), none⟩,
  .ins ⟨(.p .mv), [.tmp (nat_lit 1)], (some (nat_lit 25)), none⟩,
  .ins ⟨(.p (.slice (nat_lit 1) true false)), [.tmp (nat_lit 24), .tmp (nat_lit 25)], (some (nat_lit 26)), none⟩,
  .ins ⟨(.p .nilck), [.tmp (nat_lit 20)], (some (nat_lit 27)), none⟩,
  .ins ⟨(.p (.fieldAddr (nat_lit 0))), [.tmp (nat_lit 27)], (some (nat_lit 28)), none⟩,
  .ins ⟨(.l (.store (nat_lit 1))), [.tmp (nat_lit 28), .tmp (nat_lit 26)], none, none⟩])
 (.seq (.region [
  .ins ⟨(.p .mv), [.tmp (nat_lit 5)], (some (nat_lit 29)), none⟩,
  .ins ⟨(.p .mv), [.tmp (nat_lit 29)], (some (nat_lit 4)), none⟩])
 .ret)))))⟩

def c269 : Code' := .fn ⟨(nat_lit 19), [.tmp (nat_lit 2)],
 (.seq (.region [
  .ins ⟨(.p .mv), [.const (.bool false)], (some (nat_lit 2)), none⟩])
 (.seq (.region [
  .ins ⟨(.p .mv), [.tmp (nat_lit 0)], (some (nat_lit 3)), none⟩,
  .ins ⟨(.p (.eqnil .ptr false)), [.tmp (nat_lit 3), .const (.ptr none)], (some (nat_lit 4)), none⟩,
  .ins ⟨(.p .mv), [.tmp (nat_lit 4)], (some (nat_lit 5)), none⟩,
  .ins ⟨(.p .mv), [.tmp (nat_lit 0)], (some (nat_lit 6)), (some ((nat_lit 5), false))⟩,
  .ins ⟨(.p .nilck), [.tmp (nat_lit 6)], (some (nat_lit 7)), (some ((nat_lit 5), false))⟩,
  .ins ⟨(.p (.fieldAddr (nat_lit 1))), [.tmp (nat_lit 7)], (some (nat_lit 8)), (some ((nat_lit 5), false))⟩,
  .ins ⟨(.r (.load false (nat_lit 1))), [.tmp (nat_lit 8)], (some (nat_lit 9)), (some ((nat_lit 5), false))⟩,
  .ins ⟨(.p .mv), [.tmp (nat_lit 9)], (some (nat_lit 10)), (some ((nat_lit 5), false))⟩,
  .ins ⟨(.p .mv), [.tmp (nat_lit 0)], (some (nat_lit 11)), (some ((nat_lit 10), true))⟩,
  .ins ⟨(.p .nilck), [.tmp (nat_lit 11)], (some (nat_lit 12)), (some ((nat_lit 10), true))⟩,
  .ins ⟨(.p (.fieldAddr (nat_lit 0))), [.tmp (nat_lit 12)], (some (nat_lit 13)), (some ((nat_lit 10), true))⟩,
  .ins ⟨(.r (.load false (nat_lit 1))), [.tmp (nat_lit 13)], (some (nat_lit 14)), (some ((nat_lit 10), true))⟩,
  .ins ⟨(.p .lenSl), [.tmp (nat_lit 14)], (some (nat_lit 15)), (some ((nat_lit 10), true))⟩,
  .ins ⟨(.p (.bini .eql)), [.tmp (nat_lit 15), .const (.int .i64 (.ofNat (nat_lit 0)))], (some (nat_lit 16)), (some ((nat_lit 10), true))⟩,
  .ins ⟨(.p .pick), [.tmp (nat_lit 10), .tmp (nat_lit 16), .const (.bool false)], (some (nat_lit 17)), (some ((nat_lit 5), false))⟩,
  .ins ⟨(.p .pick), [.tmp (nat_lit 5), .const (.bool true), .tmp (nat_lit 17)], (some (nat_lit 18)), none⟩,
  .ins ⟨(.p .mv), [.tmp (nat_lit 18)], (some (nat_lit 2)), none⟩])
 .ret))⟩

def c270 : Code' := .fn ⟨(nat_lit 23), [.tmp (nat_lit 4), .tmp (nat_lit 5), .tmp (nat_lit 6)],
 (.seq (.region [
  .ins ⟨(.p .mv), [.const (.str (bs []))], (some (nat_lit 4)), none⟩,
  .ins ⟨(.p .mv), [.const (.str (bs []))], (some (nat_lit 5)), none⟩,
  .ins ⟨(.p .mv), [.const (.bool false)], (some (nat_lit 6)), none⟩])
 (.seq (.seq (.region [
  .ins ⟨(.p .mv), [.tmp (nat_lit 0)], (some (nat_lit 8)), none⟩,
  .ins ⟨(.p .mv), [.tmp (nat_lit 1)], (some (nat_lit 9)), none⟩,
  .ins ⟨(.c .value), [.const (.func (.func (nat_lit 300)) [] []), .tmp (nat_lit 8), .tmp (nat_lit 9)], (some (nat_lit 10)), none⟩,
  .ins ⟨(.p .mv), [.tmp (nat_lit 10)], (some (nat_lit 7)), none⟩])
 (.seq (.region [
  .ins ⟨(.p .mv), [.tmp (nat_lit 7)], (some (nat_lit 11)), none⟩,
  .ins ⟨(.p (.bini .geq)), [.tmp (nat_lit 11), .const (.int .i64 (.ofNat (nat_lit 0)))], (some (nat_lit 12)), none⟩])
 (.cond (.tmp (nat_lit 12)) (.seq (.region [
  .ins ⟨(.p .mv), [.tmp (nat_lit 0)], (some (nat_lit 13)), none⟩,
  .ins ⟨(.p .mv), [.tmp (nat_lit 7)], (some (nat_lit 14)), none⟩,
  .ins ⟨(.p (.sliceStr false true)), [.tmp (nat_lit 13), .tmp (nat_lit 14)], (some (nat_lit 15)), none⟩,
  .ins ⟨(.p .mv), [.tmp (nat_lit 0)], (some (nat_lit 16)), none⟩,
  .ins ⟨(.p .mv), [.tmp (nat_lit 7)], (some (nat_lit 17)), none⟩,
  .ins ⟨(.p .mv), [.tmp (nat_lit 1)], (some (nat_lit 18)), none⟩,
  .ins ⟨(.p .lenStr), [.tmp (nat_lit 18)], (some (nat_lit 19)), none⟩,
  .ins ⟨(.p (.bini .add)), [.tmp (nat_lit 17), .tmp (nat_lit 19)], (some (nat_lit 20)), none⟩,
  .ins ⟨(.p (.sliceStr true false)), [.tmp (nat_lit 16), .tmp (nat_lit 20)], (some (nat_lit 21)), none⟩,
  .ins ⟨(.p .mv), [.tmp (nat_lit 15)], (some (nat_lit 4)), none⟩,
  .ins ⟨(.p .mv), [.tmp (nat_lit 21)], (some (nat_lit 5)), none⟩,
  .ins ⟨(.p .mv), [.const (.bool true)], (some (nat_lit 6)), none⟩])
 .ret)
 .skip)))
 (.seq (.region [
  .ins ⟨(.p .mv), [.tmp (nat_lit 0)], (some (nat_lit 22)), none⟩,
  .ins ⟨(.p .mv), [.tmp (nat_lit 22)], (some (nat_lit 4)), none⟩,
  .ins ⟨(.p .mv), [.const (.str (bs []))], (some (nat_lit 5)), none⟩,
  .ins ⟨(.p .mv), [.const (.bool false)], (some (nat_lit 6)), none⟩])
 .ret)))⟩

def c272 : Code' := .fn ⟨(nat_lit 8), [.tmp (nat_lit 4)],
 (.seq (.region [
  .ins ⟨(.p .mv), [.const (.int .i64 (.ofNat (nat_lit 0)))], (some (nat_lit 4)), none⟩])
 (.seq (.region [
  .ins ⟨(.p .mv), [.tmp (nat_lit 0)], (some (nat_lit 5)), none⟩,
  .ins ⟨(.p .mv), [.tmp (nat_lit 1)], (some (nat_lit 6)), none⟩,
  .ins ⟨(.c .value), [.const (.func (.func (nat_lit 301)) [] []), .tmp (nat_lit 5), .tmp (nat_lit 6)], (some (nat_lit 7)), none⟩,
  .ins ⟨(.p .mv), [.tmp (nat_lit 7)], (some (nat_lit 4)), none⟩])
 .ret))⟩

def c277 : Code' := .fn ⟨(nat_lit 9), [.tmp (nat_lit 4)],
 (.seq (.region [
  .ins ⟨(.p .mv), [.const (.bool false)], (some (nat_lit 4)), none⟩])
 (.seq (.region [
  .ins ⟨(.p .mv), [.tmp (nat_lit 0)], (some (nat_lit 5)), none⟩,
  .ins ⟨(.p .mv), [.tmp (nat_lit 1)], (some (nat_lit 6)), none⟩,
  .ins ⟨(.c .value), [.const (.func (.func (nat_lit 305)) [] []), .tmp (nat_lit 5), .tmp (nat_lit 6)], (some (nat_lit 7)), none⟩,
  .ins ⟨(.p (.bini .geq)), [.tmp (nat_lit 7), .const (.int .i64 (.ofNat (nat_lit 0)))], (some (nat_lit 8)), none⟩,
  .ins ⟨(.p .mv), [.tmp (nat_lit 8)], (some (nat_lit 4)), none⟩])
 .ret))⟩

def c278 : Code' := .fn ⟨(nat_lit 9), [.tmp (nat_lit 2)],
 (.seq (.region [
  .ins ⟨(.p .mv), [.const (.bool false)], (some (nat_lit 2)), none⟩])
 (.seq (.region [
  .ins ⟨(.p .mv), [.tmp (nat_lit 0)], (some (nat_lit 3)), none⟩,
  .ins ⟨(.p (.bini .eql)), [.tmp (nat_lit 3), .const (.int .u8 (.ofNat (nat_lit 32)))], (some (nat_lit 4)), none⟩,
  .ins ⟨(.p .mv), [.tmp (nat_lit 4)], (some (nat_lit 5)), none⟩,
  .ins ⟨(.p .mv), [.tmp (nat_lit 0)], (some (nat_lit 6)), (some ((nat_lit 5), false))⟩,
  .ins ⟨(.p (.bini .eql)), [.tmp (nat_lit 6), .const (.int .u8 (.ofNat (nat_lit 9)))], (some (nat_lit 7)), (some ((nat_lit 5), false))⟩,
  .ins ⟨(.p .pick), [.tmp (nat_lit 5), .const (.bool true), .tmp (nat_lit 7)], (some (nat_lit 8)), none⟩,
  .ins ⟨(.p .mv), [.tmp (nat_lit 8)], (some (nat_lit 2)), none⟩])
 .ret))⟩

def c279 : Code' := .fn ⟨(nat_lit 9), [.tmp (nat_lit 2)],
 (.seq (.region [
  .ins ⟨(.p .mv), [.const (.int .i64 (.ofNat (nat_lit 0)))], (some (nat_lit 2)), none⟩])
 (.seq (.seq (.region [
  .ins ⟨(.p .mv), [.tmp (nat_lit 0)], (some (nat_lit 3)), none⟩,
  .ins ⟨(.p (.eqnil .ptr false)), [.tmp (nat_lit 3), .const (.ptr none)], (some (nat_lit 4)), none⟩])
 (.cond (.tmp (nat_lit 4)) (.seq (.region [
  .ins ⟨(.p .mv), [.const (.int .i64 (.ofNat (nat_lit 0)))], (some (nat_lit 2)), none⟩])
 .ret)
 .skip))
 (.seq (.region [
  .ins ⟨(.p .mv), [.tmp (nat_lit 0)], (some (nat_lit 5)), none⟩,
  .ins ⟨(.p .nilck), [.tmp (nat_lit 5)], (some (nat_lit 6)), none⟩,
  .ins ⟨(.p (.fieldAddr (nat_lit 0))), [.tmp (nat_lit 6)], (some (nat_lit 7)), none⟩,
  .ins ⟨(.r (.load false (nat_lit 1))), [.tmp (nat_lit 7)], (some (nat_lit 8)), none⟩,
  .ins ⟨(.p .mv), [.tmp (nat_lit 8)], (some (nat_lit 2)), none⟩])
 .ret)))⟩

def c283 : Code' := .fn ⟨(nat_lit 83), [.tmp (nat_lit 2)],
 (.seq (.region [
  .ins ⟨(.p .mv), [.const (.int .i64 (.ofNat (nat_lit 0)))], (some (nat_lit 2)), none⟩])
 (.scope (.seq (.region [
  .ins ⟨(.p .mv), [.const (.int .i64 (.ofNat (nat_lit 0)))], (some (nat_lit 3)), none⟩])
 (.seq .skip
 (.seq (.block (nat_lit 0) (.loop (.seq (.seq (.region [
  .ins ⟨(.p .mv), [.tmp (nat_lit 0)], (some (nat_lit 6)), none⟩,
  .ins ⟨(.p .nilck), [.tmp (nat_lit 6)], (some (nat_lit 7)), none⟩,
  .ins ⟨(.p (.fieldAddr (nat_lit 1))), [.tmp (nat_lit 7)], (some (nat_lit 8)), none⟩,
  .ins ⟨(.r (.load false (nat_lit 1))), [.tmp (nat_lit 8)], (some (nat_lit 9)), none⟩,
  .ins ⟨(.p .lenSl), [.tmp (nat_lit 9)], (some (nat_lit 10)), none⟩,
  .ins ⟨(.p (.bini .gtr)), [.tmp (nat_lit 10), .const (.int .i64 (.ofNat (nat_lit 0)))], (some (nat_lit 11)), none⟩])
 (.cond (.tmp (nat_lit 11)) .skip
 (.exit (nat_lit 0))))
 (.block (nat_lit 1) (.seq (.region [
  .ins ⟨(.a (.alloc [(.str (bs [])), (.str (bs [])), (.bool false)])), [], (some (nat_lit 4)), none⟩])
 (.seq (.seq (.region [
  .ins ⟨(.p .mv), [.tmp (nat_lit 0)], (some (nat_lit 12)), none⟩,
  .ins ⟨(.p .nilck), [.tmp (nat_lit 12)], (some (nat_lit 13)), none⟩,
  .ins ⟨(.p (.fieldAddr (nat_lit 1))), [.tmp (nat_lit 13)], (some (nat_lit 14)), none⟩,
  .ins ⟨(.r (.load false (nat_lit 1))), [.tmp (nat_lit 14)], (some (nat_lit 15)), none⟩,
  .ins ⟨(.p (.indexAddr (nat_lit 1))), [.tmp (nat_lit 15), .const (.int .i64 (.ofNat (nat_lit 0)))], (some (nat_lit 16)), none⟩,
  .ins ⟨(.r (.load false (nat_lit 1))), [.tmp (nat_lit 16)], (some (nat_lit 17)), none⟩,
  .ins ⟨(.p .mv), [.tmp (nat_lit 17)], (some (nat_lit 5)), none⟩])
 (.block (nat_lit 2) (.seq (.region [
  .ins ⟨(.p .mv), [.tmp (nat_lit 5)], (some (nat_lit 27)), none⟩,
  .ins ⟨(.p (.bini .geq)), [.tmp (nat_lit 27), .const (.int .u8 (.ofNat (nat_lit 128)))], (some (nat_lit 28)), none⟩,
  .ins ⟨(.p .mv), [.tmp (nat_lit 28)], (some (nat_lit 26)), none⟩])
 (.cond (.tmp (nat_lit 26)) (.region [
  .ins ⟨(.p .mv), [.tmp (nat_lit 0)], (some (nat_lit 30)), none⟩,
  .ins ⟨(.c .value), [.const (.func (.func (nat_lit 306)) [] []), .tmp (nat_lit 30)], (some (nat_lit 31)), none⟩,
  .ins ⟨(.p .mv), [.tmp (nat_lit 31)], (some (nat_lit 29)), none⟩,
  .ins ⟨(.p (.extract (nat_lit 0))), [.tmp (nat_lit 29)], (some (nat_lit 32)), none⟩,
  .ins ⟨(.p (.extract (nat_lit 1))), [.tmp (nat_lit 29)], (some (nat_lit 33)), none⟩,
  .ins ⟨(.l (.store (nat_lit 3))), [.tmp (nat_lit 4), .tmp (nat_lit 32)], none, none⟩,
  .ins ⟨(.p .mv), [.tmp (nat_lit 33)], (some (nat_lit 3)), none⟩])
 (.seq (.region [
  .ins ⟨(.p .mv), [.tmp (nat_lit 5)], (some (nat_lit 35)), none⟩,
  .ins ⟨(.p (.bini .geq)), [.tmp (nat_lit 35), .const (.int .u8 (.ofNat (nat_lit 64)))], (some (nat_lit 36)), none⟩,
  .ins ⟨(.p .mv), [.tmp (nat_lit 36)], (some (nat_lit 34)), none⟩])
 (.cond (.tmp (nat_lit 34)) (.seq (.region [
  .ins ⟨(.p .mv), [.tmp (nat_lit 0)], (some (nat_lit 38)), none⟩,
  .ins ⟨(.c .value), [.const (.func (.func (nat_lit 307)) [] []), .tmp (nat_lit 38), .const (.int .i64 (.ofNat (nat_lit 6)))], (some (nat_lit 39)), none⟩,
  .ins ⟨(.p .mv), [.tmp (nat_lit 39)], (some (nat_lit 37)), none⟩,
  .ins ⟨(.p (.extract (nat_lit 0))), [.tmp (nat_lit 37)], (some (nat_lit 40)), none⟩,
  .ins ⟨(.p (.extract (nat_lit 1))), [.tmp (nat_lit 37)], (some (nat_lit 41)), none⟩,
  .ins ⟨(.l (.store (nat_lit 3))), [.tmp (nat_lit 4), .tmp (nat_lit 40)], none, none⟩,
  .ins ⟨(.p .mv), [.tmp (nat_lit 41)], (some (nat_lit 3)), none⟩])
 (.seq (.region [
  .ins ⟨(.p .mv), [.tmp (nat_lit 3)], (some (nat_lit 42)), none⟩,
  .ins ⟨(.p (.bini .eql)), [.tmp (nat_lit 42), .const (.int .i64 (.ofNat (nat_lit 0)))], (some (nat_lit 43)), none⟩])
 (.cond (.tmp (nat_lit 43)) (.region [
  .ins ⟨(.p .mv), [.tmp (nat_lit 0)], (some (nat_lit 44)), none⟩,
  .ins ⟨(.p .nilck), [.tmp (nat_lit 44)], (some (nat_lit 45)), none⟩,
  .ins ⟨(.p (.fieldAddr (nat_lit 0))), [.tmp (nat_lit 45)], (some (nat_lit 46)), none⟩,
  .ins ⟨(.r (.load false (nat_lit 1))), [.tmp (nat_lit 46)], (some (nat_lit 47)), none⟩,
  .ins ⟨(.p .nilck), [.tmp (nat_lit 47)], (some (nat_lit 48)), none⟩,
  .ins ⟨(.p (.fieldAddr (nat_lit 0))), [.tmp (nat_lit 48)], (some (nat_lit 49)), none⟩,
  .ins ⟨(.r (.load false (nat_lit 1))), [.tmp (nat_lit 49)], (some (nat_lit 50)), none⟩,
  .ins ⟨(.p (.fieldAddr (nat_lit 0))), [.tmp (nat_lit 4)], (some (nat_lit 51)), none⟩,
  .ins ⟨(.r (.load false (nat_lit 1))), [.tmp (nat_lit 51)], (some (nat_lit 52)), none⟩,
  .ins ⟨(.p (.fieldAddr (nat_lit 1))), [.tmp (nat_lit 4)], (some (nat_lit 53)), none⟩,
  .ins ⟨(.r (.load false (nat_lit 1))), [.tmp (nat_lit 53)], (some (nat_lit 54)), none⟩,
  .ins ⟨(.c .value), [.const (.func (.func (nat_lit 252)) [] []), .tmp (nat_lit 50), .tmp (nat_lit 52), .tmp (nat_lit 54)], (some (nat_lit 55)), none⟩])
 .skip)))
 (.seq (.region [
  .ins ⟨(.p .mv), [.tmp (nat_lit 5)], (some (nat_lit 57)), none⟩,
  .ins ⟨(.p (.bini .geq)), [.tmp (nat_lit 57), .const (.int .u8 (.ofNat (nat_lit 32)))], (some (nat_lit 58)), none⟩,
  .ins ⟨(.p .mv), [.tmp (nat_lit 58)], (some (nat_lit 56)), none⟩])
 (.cond (.tmp (nat_lit 56)) (.seq (.region [
  .ins ⟨(.p .mv), [.tmp (nat_lit 0)], (some (nat_lit 59)), none⟩,
  .ins ⟨(.c .value), [.const (.func (.func (nat_lit 308)) [] []), .tmp (nat_lit 59)], (some (nat_lit 60)), none⟩,
  .ins ⟨(.p .mv), [.tmp (nat_lit 60)], (some (nat_lit 3)), none⟩])
 (.seq (.region [
  .ins ⟨(.p .mv), [.tmp (nat_lit 3)], (some (nat_lit 61)), none⟩,
  .ins ⟨(.p (.bini .eql)), [.tmp (nat_lit 61), .const (.int .i64 (.ofNat (nat_lit 0)))], (some (nat_lit 62)), none⟩])
 (.cond (.tmp (nat_lit 62)) (.exit (nat_lit 1))
 .skip)))
 (.seq (.region [
  .ins ⟨(.p .mv), [.tmp (nat_lit 0)], (some (nat_lit 19)), none⟩,
  .ins ⟨(.c .value), [.const (.func (.func (nat_lit 307)) [] []), .tmp (nat_lit 19), .const (.int .i64 (.ofNat (nat_lit 4)))], (some (nat_lit 20)), none⟩,
  .ins ⟨(.p .mv), [.tmp (nat_lit 20)], (some (nat_lit 18)), none⟩,
  .ins ⟨(.p (.extract (nat_lit 0))), [.tmp (nat_lit 18)], (some (nat_lit 21)), none⟩,
  .ins ⟨(.p (.extract (nat_lit 1))), [.tmp (nat_lit 18)], (some (nat_lit 22)), none⟩,
  .ins ⟨(.l (.store (nat_lit 3))), [.tmp (nat_lit 4), .tmp (nat_lit 21)], none, none⟩,
  .ins ⟨(.p .mv), [.tmp (nat_lit 22)], (some (nat_lit 3)), none⟩])
 (.region [
  .ins ⟨(.p .mv), [.tmp (nat_lit 5)], (some (nat_lit 23)), none⟩,
  .ins ⟨(.p (.bini .geq)), [.tmp (nat_lit 23), .const (.int .u8 (.ofNat (nat_lit 16)))], (some (nat_lit 24)), none⟩,
  .ins ⟨(.p (.fieldAddr (nat_lit 2))), [.tmp (nat_lit 4)], (some (nat_lit 25)), none⟩,
  .ins ⟨(.l (.store (nat_lit 1))), [.tmp (nat_lit 25), .tmp (nat_lit 24)], none, none⟩]))))))))))
 (.seq (.seq (.region [
  .ins ⟨(.p .mv), [.tmp (nat_lit 3)], (some (nat_lit 63)), none⟩,
  .ins ⟨(.p (.bini .neq)), [.tmp (nat_lit 63), .const (.int .i64 (.ofNat (nat_lit 0)))], (some (nat_lit 64)), none⟩])
 (.cond (.tmp (nat_lit 64)) (.exit (nat_lit 0))
 .skip))
 (.seq (.region [
  .ins ⟨(.p .mv), [.tmp (nat_lit 0)], (some (nat_lit 65)), none⟩,
  .ins ⟨(.p .nilck), [.tmp (nat_lit 65)], (some (nat_lit 66)), none⟩,
  .ins ⟨(.p (.fieldAddr (nat_lit 3))), [.tmp (nat_lit 66)], (some (nat_lit 67)), none⟩,
  .ins ⟨(.l (.store (nat_lit 1))), [.tmp (nat_lit 67), .const (.bool true)], none, none⟩])
 (.region [
  .ins ⟨(.p .mv), [.tmp (nat_lit 0)], (some (nat_lit 68)), none⟩,
  .ins ⟨(.r (.load true (nat_lit 3))), [.tmp (nat_lit 4)], (some (nat_lit 69)), none⟩,
  .ins ⟨(.c .value), [.const (.func (.func (nat_lit 309)) [] []), .tmp (nat_lit 68), .tmp (nat_lit 69)], (some (nat_lit 70)), none⟩])))))))))
 (.seq (.seq (.region [
  .ins ⟨(.p .mv), [.tmp (nat_lit 3)], (some (nat_lit 71)), none⟩,
  .ins ⟨(.p (.bini .eql)), [.tmp (nat_lit 71), .const (.int .i64 (.ofNat (nat_lit 0)))], (some (nat_lit 72)), none⟩,
  .ins ⟨(.p .mv), [.tmp (nat_lit 72)], (some (nat_lit 73)), none⟩,
  .ins ⟨(.p .mv), [.tmp (nat_lit 0)], (some (nat_lit 74)), (some ((nat_lit 73), true))⟩,
  .ins ⟨(.p .nilck), [.tmp (nat_lit 74)], (some (nat_lit 75)), (some ((nat_lit 73), true))⟩,
  .ins ⟨(.p (.fieldAddr (nat_lit 0))), [.tmp (nat_lit 75)], (some (nat_lit 76)), (some ((nat_lit 73), true))⟩,
  .ins ⟨(.r (.load false (nat_lit 1))), [.tmp (nat_lit 76)], (some (nat_lit 77)), (some ((nat_lit 73), true))⟩,
  .ins ⟨(.p .nilck), [.tmp (nat_lit 77)], (some (nat_lit 78)), (some ((nat_lit 73), true))⟩,
  .ins ⟨(.p (.fieldAddr (nat_lit 2))), [.tmp (nat_lit 78)], (some (nat_lit 79)), (some ((nat_lit 73), true))⟩,
  .ins ⟨(.r (.load false (nat_lit 1))), [.tmp (nat_lit 79)], (some (nat_lit 80)), (some ((nat_lit 73), true))⟩,
  .ins ⟨(.p .pick), [.tmp (nat_lit 73), .tmp (nat_lit 80), .const (.bool false)], (some (nat_lit 81)), none⟩])
 (.cond (.tmp (nat_lit 81)) (.seq (.region [
  .ins ⟨(.p .mv), [.const (.int .i64 (.ofNat (nat_lit 7)))], (some (nat_lit 2)), none⟩])
 .ret)
 .skip))
 (.seq (.region [
  .ins ⟨(.p .mv), [.tmp (nat_lit 3)], (some (nat_lit 82)), none⟩,
  .ins ⟨(.p .mv), [.tmp (nat_lit 82)], (some (nat_lit 2)), none⟩])
 .ret)))))))⟩

def c289 : Code' := .fn ⟨(nat_lit 27), [.tmp (nat_lit 4), .tmp (nat_lit 5)],
 (.seq (.region [
  .ins ⟨(.a .box), [.tmp (nat_lit 0)], (some (nat_lit 2)), none⟩,
  .ins ⟨(.a .box), [.tmp (nat_lit 1)], (some (nat_lit 3)), none⟩,
  .ins ⟨(.p .mv), [.const (.int .i64 (.ofNat (nat_lit 0)))], (some (nat_lit 4)), none⟩,
  .ins ⟨(.p .mv), [.const (.int .i64 (.ofNat (nat_lit 0)))], (some (nat_lit 5)), none⟩])
 (.scope (.seq (.region [
  .ins ⟨(.a (.alloc [(.int .i64 (.ofNat (nat_lit 0)))])), [], (some (nat_lit 6)), none⟩,
  .ins ⟨(.a (.alloc [(.int .i64 (.ofNat (nat_lit 0)))])), [], (some (nat_lit 7)), none⟩,
  .ins ⟨(.l (.store (nat_lit 1))), [.tmp (nat_lit 6), .const (.int .i64 (.ofNat (nat_lit 0)))], none, none⟩,
  .ins ⟨(.l (.store (nat_lit 1))), [.tmp (nat_lit 7), .const (.int .i64 (.ofNat (nat_lit 0)))], none, none⟩])
 (.seq .skip
 (.seq (.seq (.region [
  .ins ⟨(.c .value), [.const (.func (.func (nat_lit 310)) [] [])], (some (nat_lit 10)), none⟩])
 (.block (nat_lit 0) (.rangeFunc (.tmp (nat_lit 10)) [(nat_lit 11), (nat_lit 12)] (.seq (.region [
  .ins ⟨(.p .mv), [.tmp (nat_lit 11)], (some (nat_lit 8)), none⟩])
 (.region [
  .ins ⟨(.a (.alloc [(.str (bs [])), (.str (bs [])), (.bool false)])), [], (some (nat_lit 9)), none⟩,
  .ins ⟨(.l (.store (nat_lit 3))), [.tmp (nat_lit 9), .tmp (nat_lit 12)], none, none⟩]))
 (.block (nat_lit 1) (.seq (.seq (.region [
  .ins ⟨(.p (.fieldAddr (nat_lit 0))), [.tmp (nat_lit 9)], (some (nat_lit 13)), none⟩,
  .ins ⟨(.r (.load false (nat_lit 1))), [.tmp (nat_lit 13)], (some (nat_lit 14)), none⟩,
  .ins ⟨(.r (.load false (nat_lit 1))), [.tmp (nat_lit 2)], (some (nat_lit 15)), none⟩,
  .ins ⟨(.p (.bins .neq)), [.tmp (nat_lit 14), .tmp (nat_lit 15)], (some (nat_lit 16)), none⟩])
 (.cond (.tmp (nat_lit 16)) (.exit (nat_lit 1))
 .skip))
 (.seq (.seq (.region [
  .ins ⟨(.r (.load false (nat_lit 1))), [.tmp (nat_lit 7)], (some (nat_lit 17)), none⟩,
  .ins ⟨(.p (.bini .eql)), [.tmp (nat_lit 17), .const (.int .i64 (.ofNat (nat_lit 0)))], (some (nat_lit 18)), none⟩])
 (.cond (.tmp (nat_lit 18)) (.region [
  .ins ⟨(.p .mv), [.tmp (nat_lit 8)], (some (nat_lit 19)), none⟩,
  .ins ⟨(.l (.store (nat_lit 1))), [.tmp (nat_lit 7), .tmp (nat_lit 19)], none, none⟩])
 .skip))
 (.seq (.region [
  .ins ⟨(.p (.fieldAddr (nat_lit 1))), [.tmp (nat_lit 9)], (some (nat_lit 20)), none⟩,
  .ins ⟨(.r (.load false (nat_lit 1))), [.tmp (nat_lit 20)], (some (nat_lit 21)), none⟩,
  .ins ⟨(.r (.load false (nat_lit 1))), [.tmp (nat_lit 3)], (some (nat_lit 22)), none⟩,
  .ins ⟨(.p (.bins .eql)), [.tmp (nat_lit 21), .tmp (nat_lit 22)], (some (nat_lit 23)), none⟩])
 (.cond (.tmp (nat_lit 23)) (.seq (.region [
  .ins ⟨(.p .mv), [.tmp (nat_lit 8)], (some (nat_lit 24)), none⟩,
  .ins ⟨(.l (.store (nat_lit 1))), [.tmp (nat_lit 6), .tmp (nat_lit 24)], none, none⟩])
 (.exit (nat_lit 0)))
 .skip))))))))
 (.seq (.region [
  .ins ⟨(.r (.load false (nat_lit 1))), [.tmp (nat_lit 6)], (some (nat_lit 25)), none⟩,
  .ins ⟨(.r (.load false (nat_lit 1))), [.tmp (nat_lit 7)], (some (nat_lit 26)), none⟩,
  .ins ⟨(.p .mv), [.tmp (nat_lit 25)], (some (nat_lit 4)), none⟩,
  .ins ⟨(.p .mv), [.tmp (nat_lit 26)], (some (nat_lit 5)), none⟩])
 .ret))))))⟩

def c290 : Code' := .fn ⟨(nat_lit 64), [.tmp (nat_lit 6), .tmp (nat_lit 7)],
 (.seq (.region [
  .ins ⟨(.p .mv), [.const (.int .i64 (.ofNat (nat_lit 0)))], (some (nat_lit 6)), none⟩,
  .ins ⟨(.p .mv), [.const (.int .i64 (.ofNat (nat_lit 0)))], (some (nat_lit 7)), none⟩])
 (.seq (.region [
  .ins ⟨(.p .mv), [.const (.int .i64 (.ofNat (nat_lit 0)))], (some (nat_lit 8)), none⟩,
  .ins ⟨(.p .mv), [.const (.int .i64 (.ofNat (nat_lit 0)))], (some (nat_lit 9)), none⟩])
 (.seq (.seq (.region [
  .ins ⟨(.p .mv), [.tmp (nat_lit 0)], (some (nat_lit 11)), none⟩,
  .ins ⟨(.p (.eqnil .ptr false)), [.tmp (nat_lit 11), .const (.ptr none)], (some (nat_lit 12)), none⟩])
 (.cond (.tmp (nat_lit 12)) (.seq (.region [
  .ins ⟨(.p .mv), [.tmp (nat_lit 8)], (some (nat_lit 13)), none⟩,
  .ins ⟨(.p .mv), [.tmp (nat_lit 9)], (some (nat_lit 14)), none⟩,
  .ins ⟨(.p .mv), [.tmp (nat_lit 13)], (some (nat_lit 6)), none⟩,
  .ins ⟨(.p .mv), [.tmp (nat_lit 14)], (some (nat_lit 7)), none⟩])
 .ret)
 .skip))
 (.seq (.seq (.region [
  .ins ⟨(.p .mv), [.tmp (nat_lit 0)], (some (nat_lit 15)), none⟩,
  .ins ⟨(.p .nilck), [.tmp (nat_lit 15)], (some (nat_lit 16)), none⟩,
  .ins ⟨(.p (.fieldAddr (nat_lit 2))), [.tmp (nat_lit 16)], (some (nat_lit 17)), none⟩,
  .ins ⟨(.r (.load false (nat_lit 1))), [.tmp (nat_lit 17)], (some (nat_lit 18)), none⟩,
  .ins ⟨(.p .lenSl), [.tmp (nat_lit 18)], (some (nat_lit 19)), none⟩,
  .ins ⟨(.p (.bini .sub)), [.tmp (nat_lit 19), .const (.int .i64 (.ofNat (nat_lit 1)))], (some (nat_lit 20)), none⟩,
  .ins ⟨(.p .mv), [.tmp (nat_lit 20)], (some (nat_lit 10)), none⟩])
 (.block (nat_lit 0) (.loop (.seq (.seq (.region [
  .ins ⟨(.p .mv), [.tmp (nat_lit 10)], (some (nat_lit 21)), none⟩,
  .ins ⟨(.p (.bini .geq)), [.tmp (nat_lit 21), .const (.int .i64 (.ofNat (nat_lit 0)))], (some (nat_lit 22)), none⟩])
 (.cond (.tmp (nat_lit 22)) .skip
 (.exit (nat_lit 0))))
 (.seq (.block (nat_lit 1) (.seq (.seq (.region [
  .ins ⟨(.p .mv), [.tmp (nat_lit 0)], (some (nat_lit 25)), none⟩,
  .ins ⟨(.p .nilck), [.tmp (nat_lit 25)], (some (nat_lit 26)), none⟩,
  .ins ⟨(.p (.fieldAddr (nat_lit 2))), [.tmp (nat_lit 26)], (some (nat_lit 27)), none⟩,
  .ins ⟨(.r (.load false (nat_lit 1))), [.tmp (nat_lit 27)], (some (nat_lit 28)), none⟩,
  .ins ⟨(.p .mv), [.tmp (nat_lit 10)], (some (nat_lit 29)), none⟩,
  .ins ⟨(.p (.indexAddr (nat_lit 3))), [.tmp (nat_lit 28), .tmp (nat_lit 29)], (some (nat_lit 30)), none⟩,
  .ins ⟨(.p (.fieldAddr (nat_lit 0))), [.tmp (nat_lit 30)], (some (nat_lit 31)), none⟩,
  .ins ⟨(.r (.load false (nat_lit 1))), [.tmp (nat_lit 31)], (some (nat_lit 32)), none⟩,
  .ins ⟨(.p .mv), [.tmp (nat_lit 1)], (some (nat_lit 33)), none⟩,
  .ins ⟨(.p (.bins .neq)), [.tmp (nat_lit 32), .tmp (nat_lit 33)], (some (nat_lit 34)), none⟩])
 (.cond (.tmp (nat_lit 34)) (.exit (nat_lit 1))
 .skip))
 (.seq (.seq (.region [
  .ins ⟨(.p .mv), [.tmp (nat_lit 9)], (some (nat_lit 35)), none⟩,
  .ins ⟨(.p (.bini .eql)), [.tmp (nat_lit 35), .const (.int .i64 (.ofNat (nat_lit 0)))], (some (nat_lit 36)), none⟩])
 (.cond (.tmp (nat_lit 36)) (.region [
  .ins ⟨(.p .mv), [.tmp (nat_lit 0)], (some (nat_lit 37)), none⟩,
  .ins ⟨(.p .nilck), [.tmp (nat_lit 37)], (some (nat_lit 38)), none⟩,
  .ins ⟨(.p (.fieldAddr (nat_lit 2))), [.tmp (nat_lit 38)], (some (nat_lit 39)), none⟩,
  .ins ⟨(.r (.load false (nat_lit 1))), [.tmp (nat_lit 39)], (some (nat_lit 40)), none⟩,
  .ins ⟨(.p .lenSl), [.tmp (nat_lit 40)], (some (nat_lit 41)), none⟩,
  .ins ⟨(.p .mv), [.tmp (nat_lit 10)], (some (nat_lit 42)), none⟩,
  .ins ⟨(.p (.bini .sub)), [.tmp (nat_lit 41), .tmp (nat_lit 42)], (some (nat_lit 43)), none⟩,
  .ins ⟨(.p .mv), [.tmp (nat_lit 43)], (some (nat_lit 9)), none⟩])
 .skip))
 (.seq (.region [
  .ins ⟨(.p .mv), [.tmp (nat_lit 0)], (some (nat_lit 44)), none⟩,
  .ins ⟨(.p .nilck), [.tmp (nat_lit 44)], (some (nat_lit 45)), none⟩,
  .ins ⟨(.p (.fieldAddr (nat_lit 2))), [.tmp (nat_lit 45)], (some (nat_lit 46)), none⟩,
  .ins ⟨(.r (.load false (nat_lit 1))), [.tmp (nat_lit 46)], (some (nat_lit 47)), none⟩,
  .ins ⟨(.p .mv), [.tmp (nat_lit 10)], (some (nat_lit 48)), none⟩,
  .ins ⟨(.p (.indexAddr (nat_lit 3))), [.tmp (nat_lit 47), .tmp (nat_lit 48)], (some (nat_lit 49)), none⟩,
  .ins ⟨(.p (.fieldAddr (nat_lit 1))), [.tmp (nat_lit 49)], (some (nat_lit 50)), none⟩,
  .ins ⟨(.r (.load false (nat_lit 1))), [.tmp (nat_lit 50)], (some (nat_lit 51)), none⟩,
  .ins ⟨(.p .mv), [.tmp (nat_lit 2)], (some (nat_lit 52)), none⟩,
  .ins ⟨(.p (.bins .eql)), [.tmp (nat_lit 51), .tmp (nat_lit 52)], (some (nat_lit 53)), none⟩])
 (.cond (.tmp (nat_lit 53)) (.seq (.region [
  .ins ⟨(.p .mv), [.tmp (nat_lit 0)], (some (nat_lit 54)), none⟩,
  .ins ⟨(.p .nilck), [.tmp (nat_lit 54)], (some (nat_lit 55)), none⟩,
  .ins ⟨(.p (.fieldAddr (nat_lit 2))), [.tmp (nat_lit 55)], (some (nat_lit 56)), none⟩,
  .ins ⟨(.r (.load false (nat_lit 1))), [.tmp (nat_lit 56)], (some (nat_lit 57)), none⟩,
  .ins ⟨(.p .lenSl), [.tmp (nat_lit 57)], (some (nat_lit 58)), none⟩,
  .ins ⟨(.p .mv), [.tmp (nat_lit 10)], (some (nat_lit 59)), none⟩,
  .ins ⟨(.p (.bini .sub)), [.tmp (nat_lit 58), .tmp (nat_lit 59)], (some (nat_lit 60)), none⟩,
  .ins ⟨(.p .mv), [.tmp (nat_lit 9)], (some (nat_lit 61)), none⟩,
  .ins ⟨(.p .mv), [.tmp (nat_lit 60)], (some (nat_lit 6)), none⟩,
  .ins ⟨(.p .mv), [.tmp (nat_lit 61)], (some (nat_lit 7)), none⟩])
 .ret)
 .skip)))))
 (.region [
  .ins ⟨(.p .mv), [.tmp (nat_lit 10)], (some (nat_lit 23)), none⟩,
  .ins ⟨(.p (.bini .sub)), [.tmp (nat_lit 23), .const (.int .i64 (.ofNat (nat_lit 1)))], (some (nat_lit 24)), none⟩,
  .ins ⟨(.p .mv), [.tmp (nat_lit 24)], (some (nat_lit 10)), none⟩]))))))
 (.seq (.region [
  .ins ⟨(.p .mv), [.tmp (nat_lit 8)], (some (nat_lit 62)), none⟩,
  .ins ⟨(.p .mv), [.tmp (nat_lit 9)], (some (nat_lit 63)), none⟩,
  .ins ⟨(.p .mv), [.tmp (nat_lit 62)], (some (nat_lit 6)), none⟩,
  .ins ⟨(.p .mv), [.tmp (nat_lit 63)], (some (nat_lit 7)), none⟩])
 .ret)))))⟩

def c292 : Code' := .fn ⟨(nat_lit 71), [.tmp (nat_lit 6), .tmp (nat_lit 7)],
 (.seq (.region [
  .ins ⟨(.p .mv), [.const (.slice none (nat_lit 0) (nat_lit 0) (nat_lit 0))], (some (nat_lit 6)), none⟩,
  .ins ⟨(.p .mv), [.const (.int .i64 (.ofNat (nat_lit 0)))], (some (nat_lit 7)), none⟩])
 (.seq (.seq (.region [
  .ins ⟨(.p .mv), [.tmp (nat_lit 0)], (some (nat_lit 10)), none⟩,
  .ins ⟨(.p (.bini .lss)), [.tmp (nat_lit 10), .const (.int .i64 (.ofNat (nat_lit 1)))], (some (nat_lit 11)), none⟩,
  .ins ⟨(.p .mv), [.tmp (nat_lit 11)], (some (nat_lit 12)), none⟩,
  .ins ⟨(.p .mv), [.tmp (nat_lit 0)], (some (nat_lit 13)), (some ((nat_lit 12), false))⟩,
  .ins ⟨(.p (.bini .gtr)), [.tmp (nat_lit 13), .const (.int .i64 (.ofNat (nat_lit 8)))], (some (nat_lit 14)), (some ((nat_lit 12), false))⟩,
  .ins ⟨(.p .pick), [.tmp (nat_lit 12), .const (.bool true), .tmp (nat_lit 14)], (some (nat_lit 15)), none⟩,
  .ins ⟨(.p .mv), [.tmp (nat_lit 15)], (some (nat_lit 16)), none⟩,
  .ins ⟨(.p .mv), [.tmp (nat_lit 1)], (some (nat_lit 17)), (some ((nat_lit 16), false))⟩,
  .ins ⟨(.p (.bini .lss)), [.tmp (nat_lit 17), .const (.int .i64 (.ofNat (nat_lit 0)))], (some (nat_lit 18)), (some ((nat_lit 16), false))⟩,
  .ins ⟨(.p .pick), [.tmp (nat_lit 16), .const (.bool true), .tmp (nat_lit 18)], (some (nat_lit 19)), none⟩,
  .ins ⟨(.p .mv), [.tmp (nat_lit 19)], (some (nat_lit 20)), none⟩,
  .ins ⟨(.p .mv), [.tmp (nat_lit 1)], (some (nat_lit 21)), (some ((nat_lit 20), false))⟩,
  .ins ⟨(.p (.bini .gtr)), [.tmp (nat_lit 21), .const (.int .i64 (.ofNat (nat_lit 255)))], (some (nat_lit 22)), (some ((nat_lit 20), false))⟩,
  .ins ⟨(.p .pick), [.tmp (nat_lit 20), .const (.bool true), .tmp (nat_lit 22)], (some (nat_lit 23)), none⟩,
  .ins ⟨(.p .mv), [.tmp (nat_lit 23)], (some (nat_lit 24)), none⟩,
  .ins ⟨(.p .mv), [.tmp (nat_lit 2)], (some (nat_lit 25)), (some ((nat_lit 24), false))⟩,
  .ins ⟨(.p (.bini .lss)), [.tmp (nat_lit 25), .const (.int .i64 (.ofNat (nat_lit 0)))], (some (nat_lit 26)), (some ((nat_lit 24), false))⟩,
  .ins ⟨(.p .pick), [.tmp (nat_lit 24), .const (.bool true), .tmp (nat_lit 26)], (some (nat_lit 27)), none⟩,
  .ins ⟨(.p .mv), [.tmp (nat_lit 27)], (some (nat_lit 28)), none⟩,
  .ins ⟨(.p .mv), [.tmp (nat_lit 2)], (some (nat_lit 29)), (some ((nat_lit 28), false))⟩,
  .ins ⟨(.p (.bini .gtr)), [.tmp (nat_lit 29), .const (.int .i64 (.ofNat (nat_lit 2147483647)))], (some (nat_lit 30)), (some ((nat_lit 28), false))⟩,
  .ins ⟨(.p .pick), [.tmp (nat_lit 28), .const (.bool true), .tmp (nat_lit 30)], (some (nat_lit 31)), none⟩])
 (.cond (.tmp (nat_lit 31)) (.seq (.region [
  .ins ⟨(.p .mv), [.const (.slice none (nat_lit 0) (nat_lit 0) (nat_lit 0))], (some (nat_lit 6)), none⟩,
  .ins ⟨(.p .mv), [.const (.int .i64 (.ofNat (nat_lit 1)))], (some (nat_lit 7)), none⟩])
 .ret)
 .skip))
 (.seq (.region [
  .ins ⟨(.p .mv), [.tmp (nat_lit 0)], (some (nat_lit 32)), none⟩,
  .ins ⟨(.p (.bini .shl)), [.const (.int .i64 (.ofNat (nat_lit 1))), .tmp (nat_lit 32)], (some (nat_lit 33)), none⟩,
  .ins ⟨(.p (.bini .sub)), [.tmp (nat_lit 33), .const (.int .i64 (.ofNat (nat_lit 1)))], (some (nat_lit 34)), none⟩,
  .ins ⟨(.p .mv), [.tmp (nat_lit 34)], (some (nat_lit 8)), none⟩])
 (.seq (.seq (.region [
  .ins ⟨(.p .mv), [.tmp (nat_lit 1)], (some (nat_lit 35)), none⟩,
  .ins ⟨(.p .mv), [.tmp (nat_lit 8)], (some (nat_lit 36)), none⟩,
  .ins ⟨(.p (.bini .and)), [.tmp (nat_lit 35), .tmp (nat_lit 36)], (some (nat_lit 37)), none⟩,
  .ins ⟨(.p (.bini .neq)), [.tmp (nat_lit 37), .const (.int .i64 (.ofNat (nat_lit 0)))], (some (nat_lit 38)), none⟩])
 (.cond (.tmp (nat_lit 38)) (.seq (.region [
  .ins ⟨(.p .mv), [.const (.slice none (nat_lit 0) (nat_lit 0) (nat_lit 0))], (some (nat_lit 6)), none⟩,
  .ins ⟨(.p .mv), [.const (.int .i64 (.ofNat (nat_lit 1)))], (some (nat_lit 7)), none⟩])
 .ret)
 .skip))
 (.seq (.seq (.region [
  .ins ⟨(.p .mv), [.tmp (nat_lit 2)], (some (nat_lit 39)), none⟩,
  .ins ⟨(.p .mv), [.tmp (nat_lit 8)], (some (nat_lit 40)), none⟩,
  .ins ⟨(.p (.bini .lss)), [.tmp (nat_lit 39), .tmp (nat_lit 40)], (some (nat_lit 41)), none⟩])
 (.cond (.tmp (nat_lit 41)) (.seq (.region [
  .ins ⟨(.p .mv), [.tmp (nat_lit 1)], (some (nat_lit 42)), none⟩,
  .ins ⟨(.p (.convInt .u8)), [.tmp (nat_lit 42)], (some (nat_lit 43)), none⟩,
  .ins ⟨(.p .mv), [.tmp (nat_lit 2)], (some (nat_lit 44)), none⟩,
  .ins ⟨(.p (.convInt .u8)), [.tmp (nat_lit 44)], (some (nat_lit 45)), none⟩,
  .ins ⟨(.p (.bini .add)), [.tmp (nat_lit 43), .tmp (nat_lit 45)], (some (nat_lit 46)), none⟩,
  .ins ⟨(.a (.buildSlice [(.int .u8 (.ofNat (nat_lit 0)))] (nat_lit 1) [((nat_lit 0), (nat_lit 1))])), [.tmp (nat_lit 46)], (some (nat_lit 47)), none⟩,
  .ins ⟨(.p .mv), [.tmp (nat_lit 47)], (some (nat_lit 6)), none⟩,
  .ins ⟨(.p .mv), [.const (.int .i64 (.ofNat (nat_lit 0)))], (some (nat_lit 7)), none⟩])
 .ret)
 .skip))
 (.seq (.region [
  .ins ⟨(.p .mv), [.tmp (nat_lit 1)], (some (nat_lit 48)), none⟩,
  .ins ⟨(.p .mv), [.tmp (nat_lit 8)], (some (nat_lit 49)), none⟩,
  .ins ⟨(.p (.bini .add)), [.tmp (nat_lit 48), .tmp (nat_lit 49)], (some (nat_lit 50)), none⟩,
  .ins ⟨(.p (.convInt .u8)), [.tmp (nat_lit 50)], (some (nat_lit 51)), none⟩,
  .ins ⟨(.a (.buildSlice [(.int .u8 (.ofNat (nat_lit 0)))] (nat_lit 1) [((nat_lit 0), (nat_lit 1))])), [.tmp (nat_lit 51)], (some (nat_lit 52)), none⟩,
  .ins ⟨(.p .mv), [.tmp (nat_lit 52)], (some (nat_lit 9)), none⟩])
 (.seq (.seq (.region [
  .ins ⟨(.p .mv), [.tmp (nat_lit 2)], (some (nat_lit 53)), none⟩,
  .ins ⟨(.p .mv), [.tmp (nat_lit 8)], (some (nat_lit 54)), none⟩,
  .ins ⟨(.p (.bini .sub)), [.tmp (nat_lit 53), .tmp (nat_lit 54)], (some (nat_lit 55)), none⟩,
  .ins ⟨(.p .mv), [.tmp (nat_lit 55)], (some (nat_lit 2)), none⟩])
 (.block (nat_lit 0) (.loop (.seq (.seq (.region [
  .ins ⟨(.p .mv), [.tmp (nat_lit 2)], (some (nat_lit 56)), none⟩,
  .ins ⟨(.p (.bini .geq)), [.tmp (nat_lit 56), .const (.int .i64 (.ofNat (nat_lit 128)))], (some (nat_lit 57)), none⟩])
 (.cond (.tmp (nat_lit 57)) .skip
 (.exit (nat_lit 0))))
 (.seq (.block (nat_lit 1) (.region [
  .ins ⟨(.p .mv), [.tmp (nat_lit 9)], (some (nat_lit 60)), none⟩,
  .ins ⟨(.p .mv), [.tmp (nat_lit 2)], (some (nat_lit 61)), none⟩,
  .ins ⟨(.p (.convInt .u8)), [.tmp (nat_lit 61)], (some (nat_lit 62)), none⟩,
  .ins ⟨(.p (.bini .or)), [.tmp (nat_lit 62), .const (.int .u8 (.ofNat (nat_lit 128)))], (some (nat_lit 63)), none⟩,
  .ins ⟨(.a (.buildSlice [(.int .u8 (.ofNat (nat_lit 0)))] (nat_lit 1) [((nat_lit 0), (nat_lit 1))])), [.tmp (nat_lit 63)], (some (nat_lit 64)), none⟩,
  .ins ⟨(.l (.append [(.int .u8 (.ofNat (nat_lit 0)))] (nat_lit 1) (nat_lit 1))), [.tmp (nat_lit 60), .tmp (nat_lit 64)], (some (nat_lit 65)), none⟩,
  .ins ⟨(.p .mv), [.tmp (nat_lit 65)], (some (nat_lit 9)), none⟩]))
 (.region [
  .ins ⟨(.p .mv), [.tmp (nat_lit 2)], (some (nat_lit 58)), none⟩,
  .ins ⟨(.p (.bini .shr)), [.tmp (nat_lit 58), .const (.int .u64 (.ofNat (nat_lit 7)))], (some (nat_lit 59)), none⟩,
  .ins ⟨(.p .mv), [.tmp (nat_lit 59)], (some (nat_lit 2)), none⟩]))))))
 (.seq (.region [
  .ins ⟨(.p .mv), [.tmp (nat_lit 9)], (some (nat_lit 66)), none⟩,
  .ins ⟨(.p .mv), [.tmp (nat_lit 2)], (some (nat_lit 67)), none⟩,
  .ins ⟨(.p (.convInt .u8)), [.tmp (nat_lit 67)], (some (nat_lit 68)), none⟩,
  .ins ⟨(.a (.buildSlice [(.int .u8 (.ofNat (nat_lit 0)))] (nat_lit 1) [((nat_lit 0), (nat_lit 1))])), [.tmp (nat_lit 68)], (some (nat_lit 69)), none⟩,
  .ins ⟨(.l (.append [(.int .u8 (.ofNat (nat_lit 0)))] (nat_lit 1) (nat_lit 1))), [.tmp (nat_lit 66), .tmp (nat_lit 69)], (some (nat_lit 70)), none⟩,
  .ins ⟨(.p .mv), [.tmp (nat_lit 70)], (some (nat_lit 6)), none⟩,
  .ins ⟨(.p .mv), [.const (.int .i64 (.ofNat (nat_lit 0)))], (some (nat_lit 7)), none⟩])
 .ret))))))))⟩

def c294 : Code' := .fn ⟨(nat_lit 23), [.tmp (nat_lit 6)],
 (.seq (.region [
  .ins ⟨(.p .mv), [.const (.slice none (nat_lit 0) (nat_lit 0) (nat_lit 0))], (some (nat_lit 6)), none⟩])
 (.seq (.seq (.region [
  .ins ⟨(.p .mv), [.tmp (nat_lit 1)], (some (nat_lit 8)), none⟩,
  .ins ⟨(.p (.bini .sub)), [.tmp (nat_lit 8), .const (.int .i64 (.ofNat (nat_lit 1)))], (some (nat_lit 9)), none⟩,
  .ins ⟨(.p .mv), [.tmp (nat_lit 9)], (some (nat_lit 7)), none⟩])
 (.block (nat_lit 0) (.loop (.seq (.seq (.region [
  .ins ⟨(.p .mv), [.tmp (nat_lit 7)], (some (nat_lit 10)), none⟩,
  .ins ⟨(.p (.bini .geq)), [.tmp (nat_lit 10), .const (.int .i64 (.ofNat (nat_lit 0)))], (some (nat_lit 11)), none⟩])
 (.cond (.tmp (nat_lit 11)) .skip
 (.exit (nat_lit 0))))
 (.seq (.block (nat_lit 1) (.region [
  .ins ⟨(.p .mv), [.tmp (nat_lit 0)], (some (nat_lit 14)), none⟩,
  .ins ⟨(.p .mv), [.tmp (nat_lit 2)], (some (nat_lit 15)), none⟩,
  .ins ⟨(.p .mv), [.tmp (nat_lit 7)], (some (nat_lit 16)), none⟩,
  .ins ⟨(.p (.bini .mul)), [.const (.int .i64 (.ofNat (nat_lit 8))), .tmp (nat_lit 16)], (some (nat_lit 17)), none⟩,
  .ins ⟨(.p (.bini .shr)), [.tmp (nat_lit 15), .tmp (nat_lit 17)], (some (nat_lit 18)), none⟩,
  .ins ⟨(.p (.convInt .u8)), [.tmp (nat_lit 18)], (some (nat_lit 19)), none⟩,
  .ins ⟨(.a (.buildSlice [(.int .u8 (.ofNat (nat_lit 0)))] (nat_lit 1) [((nat_lit 0), (nat_lit 1))])), [.tmp (nat_lit 19)], (some (nat_lit 20)), none⟩,
  .ins ⟨(.l (.append [(.int .u8 (.ofNat (nat_lit 0)))] (nat_lit 1) (nat_lit 1))), [.tmp (nat_lit 14), .tmp (nat_lit 20)], (some (nat_lit 21)), none⟩,
  .ins ⟨(.p .mv), [.tmp (nat_lit 21)], (some (nat_lit 0)), none⟩]))
 (.region [
  .ins ⟨(.p .mv), [.tmp (nat_lit 7)], (some (nat_lit 12)), none⟩,
  .ins ⟨(.p (.bini .sub)), [.tmp (nat_lit 12), .const (.int .i64 (.ofNat (nat_lit 1)))], (some (nat_lit 13)), none⟩,
  .ins ⟨(.p .mv), [.tmp (nat_lit 13)], (some (nat_lit 7)), none⟩]))))))
 (.seq (.region [
  .ins ⟨(.p .mv), [.tmp (nat_lit 0)], (some (nat_lit 22)), none⟩,
  .ins ⟨(.p .mv), [.tmp (nat_lit 22)], (some (nat_lit 6)), none⟩])
 .ret)))⟩

def c296 : Code' := .fn ⟨(nat_lit 9), [.tmp (nat_lit 2)],
 (.seq (.region [
  .ins ⟨(.p .mv), [.const (.bool false)], (some (nat_lit 2)), none⟩])
 (.seq (.region [
  .ins ⟨(.p .mv), [.tmp (nat_lit 0)], (some (nat_lit 3)), none⟩,
  .ins ⟨(.p (.bini .geq)), [.tmp (nat_lit 3), .const (.int .i64 (.ofNat (nat_lit 0)))], (some (nat_lit 4)), none⟩,
  .ins ⟨(.p .mv), [.tmp (nat_lit 4)], (some (nat_lit 5)), none⟩,
  .ins ⟨(.p .mv), [.tmp (nat_lit 0)], (some (nat_lit 6)), (some ((nat_lit 5), true))⟩,
  .ins ⟨(.p (.bini .lss)), [.tmp (nat_lit 6), .const (.int .i64 (.ofNat (nat_lit 4294967296)))], (some (nat_lit 7)), (some ((nat_lit 5), true))⟩,
  .ins ⟨(.p .pick), [.tmp (nat_lit 5), .tmp (nat_lit 7), .const (.bool false)], (some (nat_lit 8)), none⟩,
  .ins ⟨(.p .mv), [.tmp (nat_lit 8)], (some (nat_lit 2)), none⟩])
 .ret))⟩

def c299 : Code' := .fn ⟨(nat_lit 6), [.tmp (nat_lit 2)],
 (.seq (.region [
  .ins ⟨(.p .mv), [.const (.bool false)], (some (nat_lit 2)), none⟩])
 (.seq (.region [
  .ins ⟨(.p .mv), [.tmp (nat_lit 0)], (some (nat_lit 3)), none⟩,
  .ins ⟨(.p .mv), [.tmp (nat_lit 0)], (some (nat_lit 4)), none⟩,
  .ins ⟨(.p (.bini .neq)), [.tmp (nat_lit 3), .tmp (nat_lit 4)], (some (nat_lit 5)), none⟩,
  .ins ⟨(.p .mv), [.tmp (nat_lit 5)], (some (nat_lit 2)), none⟩])
 .ret))⟩

def c300 : Code' := .fn ⟨(nat_lit 143), [.tmp (nat_lit 4)],
 (.seq (.region [
  .ins ⟨(.p .mv), [.const (.int .i64 (.ofNat (nat_lit 0)))], (some (nat_lit 4)), none⟩])
 (.seq (.region [
  .ins ⟨(.p .mv), [.tmp (nat_lit 1)], (some (nat_lit 14)), none⟩,
  .ins ⟨(.p .lenStr), [.tmp (nat_lit 14)], (some (nat_lit 15)), none⟩,
  .ins ⟨(.p .mv), [.tmp (nat_lit 15)], (some (nat_lit 5)), none⟩])
 (.seq (.block (nat_lit 0) (.seq (.region [
  .ins ⟨(.p .mv), [.tmp (nat_lit 5)], (some (nat_lit 17)), none⟩,
  .ins ⟨(.p (.bini .eql)), [.tmp (nat_lit 17), .const (.int .i64 (.ofNat (nat_lit 0)))], (some (nat_lit 18)), none⟩,
  .ins ⟨(.p .mv), [.tmp (nat_lit 18)], (some (nat_lit 19)), none⟩,
  .ins ⟨(.p .mv), [.tmp (nat_lit 1)], (some (nat_lit 20)), (some ((nat_lit 19), false))⟩,
  .ins ⟨(.p .mv), [.tmp (nat_lit 0)], (some (nat_lit 21)), (some ((nat_lit 19), false))⟩,
  .ins ⟨(.p (.bins .eql)), [.tmp (nat_lit 20), .tmp (nat_lit 21)], (some (nat_lit 22)), (some ((nat_lit 19), false))⟩,
  .ins ⟨(.p .pick), [.tmp (nat_lit 19), .const (.bool true), .tmp (nat_lit 22)], (some (nat_lit 23)), none⟩,
  .ins ⟨(.p .mv), [.tmp (nat_lit 23)], (some (nat_lit 16)), none⟩])
 (.cond (.tmp (nat_lit 16)) (.seq (.region [
  .ins ⟨(.p .mv), [.const (.int .i64 (.ofNat (nat_lit 0)))], (some (nat_lit 4)), none⟩])
 .ret)
 (.seq (.region [
  .ins ⟨(.p .mv), [.tmp (nat_lit 5)], (some (nat_lit 25)), none⟩,
  .ins ⟨(.p (.bini .eql)), [.tmp (nat_lit 25), .const (.int .i64 (.ofNat (nat_lit 1)))], (some (nat_lit 26)), none⟩,
  .ins ⟨(.p .mv), [.tmp (nat_lit 26)], (some (nat_lit 24)), none⟩])
 (.cond (.tmp (nat_lit 24)) (.seq (.region [
  .ins ⟨(.p .mv), [.tmp (nat_lit 0)], (some (nat_lit 27)), none⟩,
  .ins ⟨(.p .mv), [.tmp (nat_lit 1)], (some (nat_lit 28)), none⟩,
  .ins ⟨(.p .indexStr), [.tmp (nat_lit 28), .const (.int .i64 (.ofNat (nat_lit 0)))], (some (nat_lit 29)), none⟩,
  .ins ⟨(.c .value), [.const (.func (.func (nat_lit 301)) [] []), .tmp (nat_lit 27), .tmp (nat_lit 29)], (some (nat_lit 30)), none⟩,
  .ins ⟨(.p .mv), [.tmp (nat_lit 30)], (some (nat_lit 4)), none⟩])
 .ret)
 (.seq (.region [
  .ins ⟨(.p .mv), [.tmp (nat_lit 5)], (some (nat_lit 32)), none⟩,
  .ins ⟨(.p .mv), [.tmp (nat_lit 0)], (some (nat_lit 33)), none⟩,
  .ins ⟨(.p .lenStr), [.tmp (nat_lit 33)], (some (nat_lit 34)), none⟩,
  .ins ⟨(.p (.bini .geq)), [.tmp (nat_lit 32), .tmp (nat_lit 34)], (some (nat_lit 35)), none⟩,
  .ins ⟨(.p .mv), [.tmp (nat_lit 35)], (some (nat_lit 31)), none⟩])
 (.cond (.tmp (nat_lit 31)) (.seq (.region [
  .ins ⟨(.p .mv), [.const (.int .i64 (.negSucc (nat_lit 0)))], (some (nat_lit 4)), none⟩])
 .ret)
 (.seq (.region [
  .ins ⟨(.p .mv), [.tmp (nat_lit 5)], (some (nat_lit 37)), none⟩,
  .ins ⟨(.p .mv), [], (some (nat_lit 38)), none⟩,
  .ins ⟨(.p (.bini .leq)), [.tmp (nat_lit 37), .tmp (nat_lit 38)], (some (nat_lit 39)), none⟩,
  .ins ⟨(.p .mv), [.tmp (nat_lit 39)], (some (nat_lit 40)), none⟩,
  .ins ⟨(.p .mv), [.tmp (nat_lit 0)], (some (nat_lit 41)), (some ((nat_lit 40), true))⟩,
  .ins ⟨(.p .lenStr), [.tmp (nat_lit 41)], (some (nat_lit 42)), (some ((nat_lit 40), true))⟩,
  .ins ⟨(.p (.bini .leq)), [.tmp (nat_lit 42), .const (.int .i64 (.ofNat (nat_lit 64)))], (some (nat_lit 43)), (some ((nat_lit 40), true))⟩,
  .ins ⟨(.p .pick), [.tmp (nat_lit 40), .tmp (nat_lit 43), .const (.bool false)], (some (nat_lit 44)), none⟩,
  .ins ⟨(.p .mv), [.tmp (nat_lit 44)], (some (nat_lit 36)), none⟩])
 (.cond (.tmp (nat_lit 36)) (.seq (.region [
  .ins ⟨(.p .mv), [.tmp (nat_lit 0)], (some (nat_lit 45)), none⟩,
  .ins ⟨(.p .mv), [.tmp (nat_lit 1)], (some (nat_lit 46)), none⟩,
  .ins ⟨(.c .value), [.const (.func (.func (nat_lit 316)) [] []), .tmp (nat_lit 45), .tmp (nat_lit 46)], (some (nat_lit 47)), none⟩,
  .ins ⟨(.p .mv), [.tmp (nat_lit 47)], (some (nat_lit 4)), none⟩])
 .ret)
 .skip)))))))))
 (.seq (.region [
  .ins ⟨(.p .mv), [.tmp (nat_lit 1)], (some (nat_lit 48)), none⟩,
  .ins ⟨(.p .indexStr), [.tmp (nat_lit 48), .const (.int .i64 (.ofNat (nat_lit 0)))], (some (nat_lit 49)), none⟩,
  .ins ⟨(.p .mv), [.tmp (nat_lit 49)], (some (nat_lit 6)), none⟩])
 (.seq (.region [
  .ins ⟨(.p .mv), [.tmp (nat_lit 1)], (some (nat_lit 50)), none⟩,
  .ins ⟨(.p .indexStr), [.tmp (nat_lit 50), .const (.int .i64 (.ofNat (nat_lit 1)))], (some (nat_lit 51)), none⟩,
  .ins ⟨(.p .mv), [.tmp (nat_lit 51)], (some (nat_lit 7)), none⟩])
 (.seq (.region [
  .ins ⟨(.p .mv), [.const (.int .i64 (.ofNat (nat_lit 0)))], (some (nat_lit 8)), none⟩])
 (.seq (.region [
  .ins ⟨(.p .mv), [.tmp (nat_lit 0)], (some (nat_lit 52)), none⟩,
  .ins ⟨(.p .lenStr), [.tmp (nat_lit 52)], (some (nat_lit 53)), none⟩,
  .ins ⟨(.p .mv), [.tmp (nat_lit 5)], (some (nat_lit 54)), none⟩,
  .ins ⟨(.p (.bini .sub)), [.tmp (nat_lit 53), .tmp (nat_lit 54)], (some (nat_lit 55)), none⟩,
  .ins ⟨(.p (.bini .add)), [.tmp (nat_lit 55), .const (.int .i64 (.ofNat (nat_lit 1)))], (some (nat_lit 56)), none⟩,
  .ins ⟨(.p .mv), [.tmp (nat_lit 56)], (some (nat_lit 9)), none⟩])
 (.seq (.region [
  .ins ⟨(.p .mv), [.const (.int .i64 (.ofNat (nat_lit 0)))], (some (nat_lit 10)), none⟩])
 (.seq (.block (nat_lit 1) (.loop (.seq (.seq (.region [
  .ins ⟨(.p .mv), [.tmp (nat_lit 8)], (some (nat_lit 57)), none⟩,
  .ins ⟨(.p .mv), [.tmp (nat_lit 9)], (some (nat_lit 58)), none⟩,
  .ins ⟨(.p (.bini .lss)), [.tmp (nat_lit 57), .tmp (nat_lit 58)], (some (nat_lit 59)), none⟩])
 (.cond (.tmp (nat_lit 59)) .skip
 (.exit (nat_lit 1))))
 (.block (nat_lit 2) (.seq (.seq (.region [
  .ins ⟨(.p .mv), [.tmp (nat_lit 0)], (some (nat_lit 60)), none⟩,
  .ins ⟨(.p .mv), [.tmp (nat_lit 8)], (some (nat_lit 61)), none⟩,
  .ins ⟨(.p .indexStr), [.tmp (nat_lit 60), .tmp (nat_lit 61)], (some (nat_lit 62)), none⟩,
  .ins ⟨(.p .mv), [.tmp (nat_lit 6)], (some (nat_lit 63)), none⟩,
  .ins ⟨(.p (.bini .neq)), [.tmp (nat_lit 62), .tmp (nat_lit 63)], (some (nat_lit 64)), none⟩])
 (.cond (.tmp (nat_lit 64)) (.seq (.region [
  .ins ⟨(.p .mv), [.tmp (nat_lit 0)], (some (nat_lit 65)), none⟩,
  .ins ⟨(.p .mv), [.tmp (nat_lit 8)], (some (nat_lit 66)), none⟩,
  .ins ⟨(.p (.bini .add)), [.tmp (nat_lit 66), .const (.int .i64 (.ofNat (nat_lit 1)))], (some (nat_lit 67)), none⟩,
  .ins ⟨(.p .mv), [.tmp (nat_lit 9)], (some (nat_lit 68)), none⟩,
  .ins ⟨(.p (.sliceStr true true)), [.tmp (nat_lit 65), .tmp (nat_lit 67), .tmp (nat_lit 68)], (some (nat_lit 69)), none⟩,
  .ins ⟨(.p .mv), [.tmp (nat_lit 6)], (some (nat_lit 70)), none⟩,
  .ins ⟨(.c .value), [.const (.func (.func (nat_lit 301)) [] []), .tmp (nat_lit 69), .tmp (nat_lit 70)], (some (nat_lit 71)), none⟩,
  .ins ⟨(.p .mv), [.tmp (nat_lit 71)], (some (nat_lit 11)), none⟩])
 (.seq (.seq (.region [
  .ins ⟨(.p .mv), [.tmp (nat_lit 11)], (some (nat_lit 72)), none⟩,
  .ins ⟨(.p (.bini .lss)), [.tmp (nat_lit 72), .const (.int .i64 (.ofNat (nat_lit 0)))], (some (nat_lit 73)), none⟩])
 (.cond (.tmp (nat_lit 73)) (.seq (.region [
  .ins ⟨(.p .mv), [.const (.int .i64 (.negSucc (nat_lit 0)))], (some (nat_lit 4)), none⟩])
 .ret)
 .skip))
 (.region [
  .ins ⟨(.p .mv), [.tmp (nat_lit 8)], (some (nat_lit 74)), none⟩,
  .ins ⟨(.p .mv), [.tmp (nat_lit 11)], (some (nat_lit 75)), none⟩,
  .ins ⟨(.p (.bini .add)), [.tmp (nat_lit 75), .const (.int .i64 (.ofNat (nat_lit 1)))], (some (nat_lit 76)), none⟩,
  .ins ⟨(.p (.bini .add)), [.tmp (nat_lit 74), .tmp (nat_lit 76)], (some (nat_lit 77)), none⟩,
  .ins ⟨(.p .mv), [.tmp (nat_lit 77)], (some (nat_lit 8)), none⟩])))
 .skip))
 (.seq (.seq (.region [
  .ins ⟨(.p .mv), [.tmp (nat_lit 0)], (some (nat_lit 78)), none⟩,
  .ins ⟨(.p .mv), [.tmp (nat_lit 8)], (some (nat_lit 79)), none⟩,
  .ins ⟨(.p (.bini .add)), [.tmp (nat_lit 79), .const (.int .i64 (.ofNat (nat_lit 1)))], (some (nat_lit 80)), none⟩,
  .ins ⟨(.p .indexStr), [.tmp (nat_lit 78), .tmp (nat_lit 80)], (some (nat_lit 81)), none⟩,
  .ins ⟨(.p .mv), [.tmp (nat_lit 7)], (some (nat_lit 82)), none⟩,
  .ins ⟨(.p (.bini .eql)), [.tmp (nat_lit 81), .tmp (nat_lit 82)], (some (nat_lit 83)), none⟩,
  .ins ⟨(.p .mv), [.tmp (nat_lit 83)], (some (nat_lit 84)), none⟩,
  .ins ⟨(.p .mv), [.tmp (nat_lit 0)], (some (nat_lit 85)), (some ((nat_lit 84), true))⟩,
  .ins ⟨(.p .mv), [.tmp (nat_lit 8)], (some (nat_lit 86)), (some ((nat_lit 84), true))⟩,
  .ins ⟨(.p .mv), [.tmp (nat_lit 8)], (some (nat_lit 87)), (some ((nat_lit 84), true))⟩,
  .ins ⟨(.p .mv), [.tmp (nat_lit 5)], (some (nat_lit 88)), (some ((nat_lit 84), true))⟩,
  .ins ⟨(.p (.bini .add)), [.tmp (nat_lit 87), .tmp (nat_lit 88)], (some (nat_lit 89)), (some ((nat_lit 84), true))⟩,
  .ins ⟨(.p (.sliceStr true true)), [.tmp (nat_lit 85), .tmp (nat_lit 86), .tmp (nat_lit 89)], (some (nat_lit 90)), (some ((nat_lit 84), true))⟩,
  .ins ⟨(.p .mv), [.tmp (nat_lit 1)], (some (nat_lit 91)), (some ((nat_lit 84), true))⟩,
  .ins ⟨(.p (.bins .eql)), [.tmp (nat_lit 90), .tmp (nat_lit 91)], (some (nat_lit 92)), (some ((nat_lit 84), true))⟩,
  .ins ⟨(.p .pick), [.tmp (nat_lit 84), .tmp (nat_lit 92), .const (.bool false)], (some (nat_lit 93)), none⟩])
 (.cond (.tmp (nat_lit 93)) (.seq (.region [
  .ins ⟨(.p .mv), [.tmp (nat_lit 8)], (some (nat_lit 94)), none⟩,
  .ins ⟨(.p .mv), [.tmp (nat_lit 94)], (some (nat_lit 4)), none⟩])
 .ret)
 .skip))
 (.seq (.region [
  .ins ⟨(.p .mv), [.tmp (nat_lit 8)], (some (nat_lit 95)), none⟩,
  .ins ⟨(.p (.bini .add)), [.tmp (nat_lit 95), .const (.int .i64 (.ofNat (nat_lit 1)))], (some (nat_lit 96)), none⟩,
  .ins ⟨(.p .mv), [.tmp (nat_lit 96)], (some (nat_lit 8)), none⟩])
 (.seq (.region [
  .ins ⟨(.p .mv), [.tmp (nat_lit 10)], (some (nat_lit 97)), none⟩,
  .ins ⟨(.p (.bini .add)), [.tmp (nat_lit 97), .const (.int .i64 (.ofNat (nat_lit 1)))], (some (nat_lit 98)), none⟩,
  .ins ⟨(.p .mv), [.tmp (nat_lit 98)], (some (nat_lit 10)), none⟩])
 (.seq (.region [
  .ins ⟨(.p .mv), [.tmp (nat_lit 5)], (some (nat_lit 99)), none⟩,
  .ins ⟨(.p .mv), [], (some (nat_lit 100)), none⟩,
  .ins ⟨(.p (.bini .leq)), [.tmp (nat_lit 99), .tmp (nat_lit 100)], (some (nat_lit 101)), none⟩,
  .ins ⟨(.p .mv), [.tmp (nat_lit 101)], (some (nat_lit 102)), none⟩,
  .ins ⟨(.p .mv), [.tmp (nat_lit 10)], (some (nat_lit 103)), (some ((nat_lit 102), true))⟩,
  .ins ⟨(.p .mv), [.tmp (nat_lit 8)], (some (nat_lit 104)), (some ((nat_lit 102), true))⟩,
  .ins ⟨(.c .value), [.const (.func (.func (nat_lit 317)) [] []), .tmp (nat_lit 104)], (some (nat_lit 105)), (some ((nat_lit 102), true))⟩,
  .ins ⟨(.p (.bini .gtr)), [.tmp (nat_lit 103), .tmp (nat_lit 105)], (some (nat_lit 106)), (some ((nat_lit 102), true))⟩,
  .ins ⟨(.p .pick), [.tmp (nat_lit 102), .tmp (nat_lit 106), .const (.bool false)], (some (nat_lit 107)), none⟩])
 (.cond (.tmp (nat_lit 107)) (.seq (.region [
  .ins ⟨(.p .mv), [.tmp (nat_lit 0)], (some (nat_lit 108)), none⟩,
  .ins ⟨(.p .mv), [.tmp (nat_lit 8)], (some (nat_lit 109)), none⟩,
  .ins ⟨(.p (.sliceStr true false)), [.tmp (nat_lit 108), .tmp (nat_lit 109)], (some (nat_lit 110)), none⟩,
  .ins ⟨(.p .mv), [.tmp (nat_lit 1)], (some (nat_lit 111)), none⟩,
  .ins ⟨(.c .value), [.const (.func (.func (nat_lit 316)) [] []), .tmp (nat_lit 110), .tmp (nat_lit 111)], (some (nat_lit 112)), none⟩,
  .ins ⟨(.p .mv), [.tmp (nat_lit 112)], (some (nat_lit 12)), none⟩])
 (.seq (.seq (.region [
  .ins ⟨(.p .mv), [.tmp (nat_lit 12)], (some (nat_lit 113)), none⟩,
  .ins ⟨(.p (.bini .geq)), [.tmp (nat_lit 113), .const (.int .i64 (.ofNat (nat_lit 0)))], (some (nat_lit 114)), none⟩])
 (.cond (.tmp (nat_lit 114)) (.seq (.region [
  .ins ⟨(.p .mv), [.tmp (nat_lit 12)], (some (nat_lit 115)), none⟩,
  .ins ⟨(.p .mv), [.tmp (nat_lit 8)], (some (nat_lit 116)), none⟩,
  .ins ⟨(.p (.bini .add)), [.tmp (nat_lit 115), .tmp (nat_lit 116)], (some (nat_lit 117)), none⟩,
  .ins ⟨(.p .mv), [.tmp (nat_lit 117)], (some (nat_lit 4)), none⟩])
 .ret)
 .skip))
 (.seq (.region [
  .ins ⟨(.p .mv), [.const (.int .i64 (.negSucc (nat_lit 0)))], (some (nat_lit 4)), none⟩])
 .ret)))
 (.seq (.region [
  .ins ⟨(.p .mv), [.tmp (nat_lit 5)], (some (nat_lit 118)), none⟩,
  .ins ⟨(.p .mv), [], (some (nat_lit 119)), none⟩,
  .ins ⟨(.p (.bini .gtr)), [.tmp (nat_lit 118), .tmp (nat_lit 119)], (some (nat_lit 120)), none⟩,
  .ins ⟨(.p .mv), [.tmp (nat_lit 120)], (some (nat_lit 121)), none⟩,
  .ins ⟨(.p .mv), [.tmp (nat_lit 10)], (some (nat_lit 122)), (some ((nat_lit 121), true))⟩,
  .ins ⟨(.p .mv), [.tmp (nat_lit 8)], (some (nat_lit 123)), (some ((nat_lit 121), true))⟩,
  .ins ⟨(.p (.bini .shr)), [.tmp (nat_lit 123), .const (.int .u64 (.ofNat (nat_lit 4)))], (some (nat_lit 124)), (some ((nat_lit 121), true))⟩,
  .ins ⟨(.p (.bini .add)), [.const (.int .i64 (.ofNat (nat_lit 4))), .tmp (nat_lit 124)], (some (nat_lit 125)), (some ((nat_lit 121), true))⟩,
  .ins ⟨(.p (.bini .geq)), [.tmp (nat_lit 122), .tmp (nat_lit 125)], (some (nat_lit 126)), (some ((nat_lit 121), true))⟩,
  .ins ⟨(.p .pick), [.tmp (nat_lit 121), .tmp (nat_lit 126), .const (.bool false)], (some (nat_lit 127)), none⟩,
  .ins ⟨(.p .mv), [.tmp (nat_lit 127)], (some (nat_lit 128)), none⟩,
  .ins ⟨(.p .mv), [.tmp (nat_lit 8)], (some (nat_lit 129)), (some ((nat_lit 128), true))⟩,
  .ins ⟨(.p .mv), [.tmp (nat_lit 9)], (some (nat_lit 130)), (some ((nat_lit 128), true))⟩,
  .ins ⟨(.p (.bini .lss)), [.tmp (nat_lit 129), .tmp (nat_lit 130)], (some (nat_lit 131)), (some ((nat_lit 128), true))⟩,
  .ins ⟨(.p .pick), [.tmp (nat_lit 128), .tmp (nat_lit 131), .const (.bool false)], (some (nat_lit 132)), none⟩])
 (.cond (.tmp (nat_lit 132)) (.seq (.region [
  .ins ⟨(.p .mv), [.tmp (nat_lit 0)], (some (nat_lit 133)), none⟩,
  .ins ⟨(.p .mv), [.tmp (nat_lit 8)], (some (nat_lit 134)), none⟩,
  .ins ⟨(.p (.sliceStr true false)), [.tmp (nat_lit 133), .tmp (nat_lit 134)], (some (nat_lit 135)), none⟩,
  .ins ⟨(.p .mv), [.tmp (nat_lit 1)], (some (nat_lit 136)), none⟩,
  .ins ⟨(.c .value), [.const (.func (.func (nat_lit 318)) [] []), .tmp (nat_lit 135), .tmp (nat_lit 136)], (some (nat_lit 137)), none⟩,
  .ins ⟨(.p .mv), [.tmp (nat_lit 137)], (some (nat_lit 13)), none⟩])
 (.seq (.seq (.region [
  .ins ⟨(.p .mv), [.tmp (nat_lit 13)], (some (nat_lit 138)), none⟩,
  .ins ⟨(.p (.bini .lss)), [.tmp (nat_lit 138), .const (.int .i64 (.ofNat (nat_lit 0)))], (some (nat_lit 139)), none⟩])
 (.cond (.tmp (nat_lit 139)) (.seq (.region [
  .ins ⟨(.p .mv), [.const (.int .i64 (.negSucc (nat_lit 0)))], (some (nat_lit 4)), none⟩])
 .ret)
 .skip))
 (.seq (.region [
  .ins ⟨(.p .mv), [.tmp (nat_lit 8)], (some (nat_lit 140)), none⟩,
  .ins ⟨(.p .mv), [.tmp (nat_lit 13)], (some (nat_lit 141)), none⟩,
  .ins ⟨(.p (.bini .add)), [.tmp (nat_lit 140), .tmp (nat_lit 141)], (some (nat_lit 142)), none⟩,
  .ins ⟨(.p .mv), [.tmp (nat_lit 142)], (some (nat_lit 4)), none⟩])
 .ret)))
 .skip))))))))))))
 (.seq (.region [
  .ins ⟨(.p .mv), [.const (.int .i64 (.negSucc (nat_lit 0)))], (some (nat_lit 4)), none⟩])
 .ret))))))))))⟩

def c301 : Code' := .fn ⟨(nat_lit 8), [.tmp (nat_lit 4)],
 (.seq (.region [
  .ins ⟨(.p .mv), [.const (.int .i64 (.ofNat (nat_lit 0)))], (some (nat_lit 4)), none⟩])
 (.seq (.region [
  .ins ⟨(.p .mv), [.tmp (nat_lit 0)], (some (nat_lit 5)), none⟩,
  .ins ⟨(.p .mv), [.tmp (nat_lit 1)], (some (nat_lit 6)), none⟩,
  .ins ⟨(.c .value), [.const (.func (.func (nat_lit 319)) [] []), .tmp (nat_lit 5), .tmp (nat_lit 6)], (some (nat_lit 7)), none⟩,
  .ins ⟨(.p .mv), [.tmp (nat_lit 7)], (some (nat_lit 4)), none⟩])
 .ret))⟩

def c305 : Code' := .fn ⟨(nat_lit 55), [.tmp (nat_lit 4)],
 (.seq (.region [
  .ins ⟨(.p .mv), [.const (.int .i64 (.ofNat (nat_lit 0)))], (some (nat_lit 4)), none⟩])
 (.seq (.seq (.region [
  .ins ⟨(.p .mv), [.tmp (nat_lit 1)], (some (nat_lit 11)), none⟩,
  .ins ⟨(.p (.bins .eql)), [.tmp (nat_lit 11), .const (.str (bs []))], (some (nat_lit 12)), none⟩])
 (.cond (.tmp (nat_lit 12)) (.seq (.region [
  .ins ⟨(.p .mv), [.const (.int .i64 (.negSucc (nat_lit 0)))], (some (nat_lit 4)), none⟩])
 .ret)
 .skip))
 (.seq (.seq (.region [
  .ins ⟨(.p .mv), [.tmp (nat_lit 1)], (some (nat_lit 13)), none⟩,
  .ins ⟨(.p .lenStr), [.tmp (nat_lit 13)], (some (nat_lit 14)), none⟩,
  .ins ⟨(.p (.bini .eql)), [.tmp (nat_lit 14), .const (.int .i64 (.ofNat (nat_lit 1)))], (some (nat_lit 15)), none⟩])
 (.cond (.tmp (nat_lit 15)) (.seq (.region [
  .ins ⟨(.p .mv), [.tmp (nat_lit 1)], (some (nat_lit 16)), none⟩,
  .ins ⟨(.p .indexStr), [.tmp (nat_lit 16), .const (.int .i64 (.ofNat (nat_lit 0)))], (some (nat_lit 17)), none⟩,
  .ins ⟨(.p (.convInt .i32)), [.tmp (nat_lit 17)], (some (nat_lit 18)), none⟩,
  .ins ⟨(.p .mv), [.tmp (nat_lit 18)], (some (nat_lit 5)), none⟩])
 (.seq (.seq (.region [
  .ins ⟨(.p .mv), [.tmp (nat_lit 5)], (some (nat_lit 19)), none⟩,
  .ins ⟨(.p (.bini .geq)), [.tmp (nat_lit 19), .const (.int .i32 (.ofNat (nat_lit 128)))], (some (nat_lit 20)), none⟩])
 (.cond (.tmp (nat_lit 20)) (.region [
  .ins ⟨(.p .mv), [.const (.int .i32 (.ofNat (nat_lit 65533)))], (some (nat_lit 5)), none⟩])
 .skip))
 (.seq (.region [
  .ins ⟨(.p .mv), [.tmp (nat_lit 0)], (some (nat_lit 21)), none⟩,
  .ins ⟨(.p .mv), [.tmp (nat_lit 5)], (some (nat_lit 22)), none⟩,
  .ins ⟨(.c .value), [.const (.func (.func (nat_lit 321)) [] []), .tmp (nat_lit 21), .tmp (nat_lit 22)], (some (nat_lit 23)), none⟩,
  .ins ⟨(.p .mv), [.tmp (nat_lit 23)], (some (nat_lit 4)), none⟩])
 .ret)))
 .skip))
 (.seq (.seq (.region [
  .ins ⟨(.p .mv), [.tmp (nat_lit 0)], (some (nat_lit 24)), none⟩,
  .ins ⟨(.p .lenStr), [.tmp (nat_lit 24)], (some (nat_lit 25)), none⟩,
  .ins ⟨(.c .value), [.const (.func (.func (nat_lit 322)) [] []), .tmp (nat_lit 25)], (some (nat_lit 26)), none⟩])
 (.cond (.tmp (nat_lit 26)) (.seq (.region [
  .ins ⟨(.p .mv), [.tmp (nat_lit 1)], (some (nat_lit 28)), none⟩,
  .ins ⟨(.c .value), [.const (.func (.func (nat_lit 274)) [] []), .tmp (nat_lit 28)], (some (nat_lit 29)), none⟩,
  .ins ⟨(.p .mv), [.tmp (nat_lit 29)], (some (nat_lit 27)), none⟩,
  .ins ⟨(.p (.extract (nat_lit 0))), [.tmp (nat_lit 27)], (some (nat_lit 30)), none⟩,
  .ins ⟨(.p (.extract (nat_lit 1))), [.tmp (nat_lit 27)], (some (nat_lit 31)), none⟩,
  .ins ⟨(.a (.alloc [(.bool false), (.bool false), (.bool false), (.bool false), (.bool false), (.bool false), (.bool false), (.bool false), (.bool false), (.bool false), (.bool false), (.bool false), (.bool false), (.bool false), (.bool false), (.bool false), (.bool false), (.bool false), (.bool false), (.bool false), (.bool false), (.bool false), (.bool false), (.bool false), (.bool false), (.bool false), (.bool false), (.bool false), (.bool false), (.bool false), (.bool false), (.bool false), (.bool false), (.bool false), (.bool false), (.bool false), (.bool false), (.bool false), (.bool false), (.bool false), (.bool false), (.bool false), (.bool false), (.bool false), (.bool false), (.bool false), (.bool false), (.bool false), (.bool false), (.bool false), (.bool false), (.bool false), (.bool false), (.bool false), (.bool false), (.bool false), (.bool false), (.bool false), (.bool false), (.bool false), (.bool false), (.bool false), (.bool false), (.bool false), (.bool false), (.bool false), (.bool false), (.bool false), (.bool false), (.bool false), (.bool false), (.bool false), (.bool false), (.bool false), (.bool false), (.bool false), (.bool false), (.bool false), (.bool false), (.bool false), (.bool false), (.bool false), (.bool false), (.bool false), (.bool false), (.bool false), (.bool false), (.bool false), (.bool false), (.bool false), (.bool false), (.bool false), (.bool false), (.bool false), (.bool false), (.bool false), (.bool false), (.bool false), (.bool false), (.bool false), (.bool false), (.bool false), (.bool false), (.bool false), (.bool false), (.bool false), (.bool false), (.bool false), (.bool false), (.bool false), (.bool false), (.bool false), (.bool false), (.bool false), (.bool false), (.bool false), (.bool false), (.bool false), (.bool false), (.bool false), (.bool false), (.bool false), (.bool false), (.bool false), (.bool false), (.bool false), (.bool false), (.bool false), (.bool false), (.bool false), (.bool false), (.bool false), (.bool false), (.bool false), (.bool false), (.bool false), (.bool false), (.bool false), (.bool false), (.bool false), (.bool false), (.bool false), (.bool false), (.bool false), (.bool false), (.bool false), (.bool false), (.bool false), (.bool false), (.bool false), (.bool false), (.bool false), (.bool false), (.bool false), (.bool false), (.bool false), (.bool false), (.bool false), (.bool false), (.bool false), (.bool false), (.bool false), (.bool false), (.bool false), (.bool false), (.bool false), (.bool false), (.bool false), (.bool false), (.bool false), (.bool false), (.bool false), (.bool false), (.bool false), (.bool false), (.bool false), (.bool false), (.bool false), (.bool false), (.bool false), (.bool false), (.bool false), (.bool false), (.bool false), (.bool false), (.bool false), (.bool false), (.bool false), (.bool false), (.bool false), (.bool false), (.bool false), (.bool false), (.bool false), (.bool false), (.bool false), (.bool false), (.bool false), (.bool false), (.bool false), (.bool false), (.bool false), (.bool false), (.bool false), (.bool false), (.bool false), (.bool false), (.bool false), (.bool false), (.bool false), (.bool false), (.bool false), (.bool false), (.bool false), (.bool false), (.bool false), (.bool false), (.bool false), (.bool false), (.bool false), (.bool false), (.bool false), (.bool false), (.bool false), (.bool false), (.bool false), (.bool false), (.bool false), (.bool false), (.bool false), (.bool false), (.bool false), (.bool false), (.bool false), (.bool false), (.bool false), (.bool false), (.bool false), (.bool false), (.bool false), (.bool false), (.bool false), (.bool false), (.bool false), (.bool false), (.bool false), (.bool false), (.bool false), (.bool false), (.bool false), (.bool false), (.bool false), (.bool false), (.bool false), (.bool false), (.bool false)])), [], (some (nat_lit 6)), none⟩,
  .ins ⟨(.l (.store (nat_lit 256))), [.tmp (nat_lit 6), .tmp (nat_lit 30)], none, none⟩,
  .ins ⟨(.p .mv), [.tmp (nat_lit 31)], (some (nat_lit 7)), none⟩])
 (.seq (.region [
  .ins ⟨(.p .mv), [.tmp (nat_lit 7)], (some (nat_lit 32)), none⟩])
 (.cond (.tmp (nat_lit 32)) (.seq (.seq (.region [
  .ins ⟨(.p .mv), [.const (.int .i64 (.ofNat (nat_lit 0)))], (some (nat_lit 8)), none⟩])
 (.block (nat_lit 0) (.loop (.seq (.seq (.region [
  .ins ⟨(.p .mv), [.tmp (nat_lit 8)], (some (nat_lit 33)), none⟩,
  .ins ⟨(.p .mv), [.tmp (nat_lit 0)], (some (nat_lit 34)), none⟩,
  .ins ⟨(.p .lenStr), [.tmp (nat_lit 34)], (some (nat_lit 35)), none⟩,
  .ins ⟨(.p (.bini .lss)), [.tmp (nat_lit 33), .tmp (nat_lit 35)], (some (nat_lit 36)), none⟩])
 (.cond (.tmp (nat_lit 36)) .skip
 (.exit (nat_lit 0))))
 (.seq (.block (nat_lit 1) (.seq (.region [
  .ins ⟨(.p .mv), [.tmp (nat_lit 0)], (some (nat_lit 39)), none⟩,
  .ins ⟨(.p .mv), [.tmp (nat_lit 8)], (some (nat_lit 40)), none⟩,
  .ins ⟨(.p .indexStr), [.tmp (nat_lit 39), .tmp (nat_lit 40)], (some (nat_lit 41)), none⟩,
  .ins ⟨(.c .value), [.const (.func (.func (nat_lit 302)) [] []), .tmp (nat_lit 6), .tmp (nat_lit 41)], (some (nat_lit 42)), none⟩])
 (.cond (.tmp (nat_lit 42)) (.seq (.region [
  .ins ⟨(.p .mv), [.tmp (nat_lit 8)], (some (nat_lit 43)), none⟩,
  .ins ⟨(.p .mv), [.tmp (nat_lit 43)], (some (nat_lit 4)), none⟩])
 .ret)
 .skip)))
 (.region [
  .ins ⟨(.p .mv), [.tmp (nat_lit 8)], (some (nat_lit 37)), none⟩,
  .ins ⟨(.p (.bini .add)), [.tmp (nat_lit 37), .const (.int .i64 (.ofNat (nat_lit 1)))], (some (nat_lit 38)), none⟩,
  .ins ⟨(.p .mv), [.tmp (nat_lit 38)], (some (nat_lit 8)), none⟩]))))))
 (.seq (.region [
  .ins ⟨(.p .mv), [.const (.int .i64 (.negSucc (nat_lit 0)))], (some (nat_lit 4)), none⟩])
 .ret))
 .skip)))
 .skip))
 (.seq (.seq (.region [
  .ins ⟨(.p .mv), [.tmp (nat_lit 0)], (some (nat_lit 44)), none⟩,
  .ins ⟨(.a .rangeStr), [.tmp (nat_lit 44)], (some (nat_lit 45)), none⟩])
 (.block (nat_lit 2) (.loop (.seq (.region [
  .ins ⟨(.l .nextStr), [.tmp (nat_lit 45)], (some (nat_lit 46)), none⟩,
  .ins ⟨(.p (.extract (nat_lit 0))), [.tmp (nat_lit 46)], (some (nat_lit 47)), none⟩])
 (.seq (.cond (.tmp (nat_lit 47)) .skip
 (.exit (nat_lit 2)))
 (.block (nat_lit 3) (.seq (.region [
  .ins ⟨(.p (.extract (nat_lit 1))), [.tmp (nat_lit 46)], (some (nat_lit 48)), none⟩,
  .ins ⟨(.p (.extract (nat_lit 2))), [.tmp (nat_lit 46)], (some (nat_lit 49)), none⟩,
  .ins ⟨(.p .mv), [.tmp (nat_lit 48)], (some (nat_lit 9)), none⟩,
  .ins ⟨(.p .mv), [.tmp (nat_lit 49)], (some (nat_lit 10)), none⟩])
 (.seq (.region [
  .ins ⟨(.p .mv), [.tmp (nat_lit 1)], (some (nat_lit 50)), none⟩,
  .ins ⟨(.p .mv), [.tmp (nat_lit 10)], (some (nat_lit 51)), none⟩,
  .ins ⟨(.c .value), [.const (.func (.func (nat_lit 321)) [] []), .tmp (nat_lit 50), .tmp (nat_lit 51)], (some (nat_lit 52)), none⟩,
  .ins ⟨(.p (.bini .geq)), [.tmp (nat_lit 52), .const (.int .i64 (.ofNat (nat_lit 0)))], (some (nat_lit 53)), none⟩])
 (.cond (.tmp (nat_lit 53)) (.seq (.region [
  .ins ⟨(.p .mv), [.tmp (nat_lit 9)], (some (nat_lit 54)), none⟩,
  .ins ⟨(.p .mv), [.tmp (nat_lit 54)], (some (nat_lit 4)), none⟩])
 .ret)
 .skip)))))))))
 (.seq (.region [
  .ins ⟨(.p .mv), [.const (.int .i64 (.negSucc (nat_lit 0)))], (some (nat_lit 4)), none⟩])
 .ret))))))⟩

def c306 : Code' := .fn ⟨(nat_lit 31), [.cell (nat_lit 2) true (nat_lit 3), .tmp (nat_lit 3)],
 (.seq (.region [
  .ins ⟨(.a (.alloc [(.str (bs [])), (.str (bs [])), (.bool false)])), [], (some (nat_lit 2)), none⟩,
  .ins ⟨(.p .mv), [.const (.int .i64 (.ofNat (nat_lit 0)))], (some (nat_lit 3)), none⟩])
 (.seq (.region [
  .ins ⟨(.p .mv), [.tmp (nat_lit 0)], (some (nat_lit 7)), none⟩,
  .ins ⟨(.c .value), [.const (.func (.func (nat_lit 323)) [] []), .tmp (nat_lit 7), .const (.int .i64 (.ofNat (nat_lit 7)))], (some (nat_lit 8)), none⟩,
  .ins ⟨(.p .mv), [.tmp (nat_lit 8)], (some (nat_lit 6)), none⟩,
  .ins ⟨(.p (.extract (nat_lit 0))), [.tmp (nat_lit 6)], (some (nat_lit 9)), none⟩,
  .ins ⟨(.p (.extract (nat_lit 1))), [.tmp (nat_lit 6)], (some (nat_lit 10)), none⟩,
  .ins ⟨(.p .mv), [.tmp (nat_lit 9)], (some (nat_lit 4)), none⟩,
  .ins ⟨(.p .mv), [.tmp (nat_lit 10)], (some (nat_lit 5)), none⟩])
 (.seq (.seq (.region [
  .ins ⟨(.p .mv), [.tmp (nat_lit 5)], (some (nat_lit 11)), none⟩,
  .ins ⟨(.p (.bini .eql)), [.tmp (nat_lit 11), .const (.int .i64 (.ofNat (nat_lit 0)))], (some (nat_lit 12)), none⟩,
  .ins ⟨(.p .mv), [.tmp (nat_lit 12)], (some (nat_lit 13)), none⟩,
  .ins ⟨(.p .mv), [.tmp (nat_lit 0)], (some (nat_lit 14)), (some ((nat_lit 13), true))⟩,
  .ins ⟨(.p .nilck), [.tmp (nat_lit 14)], (some (nat_lit 15)), (some ((nat_lit 13), true))⟩,
  .ins ⟨(.p (.fieldAddr (nat_lit 0))), [.tmp (nat_lit 15)], (some (nat_lit 16)), (some ((nat_lit 13), true))⟩,
  .ins ⟨(.r (.load false (nat_lit 1))), [.tmp (nat_lit 16)], (some (nat_lit 17)), (some ((nat_lit 13), true))⟩,
  .ins ⟨(.p .nilck), [.tmp (nat_lit 17)], (some (nat_lit 18)), (some ((nat_lit 13), true))⟩,
  .ins ⟨(.p (.fieldAddr (nat_lit 2))), [.tmp (nat_lit 18)], (some (nat_lit 19)), (some ((nat_lit 13), true))⟩,
  .ins ⟨(.r (.load false (nat_lit 1))), [.tmp (nat_lit 19)], (some (nat_lit 20)), (some ((nat_lit 13), true))⟩,
  .ins ⟨(.p .pick), [.tmp (nat_lit 13), .tmp (nat_lit 20), .const (.bool false)], (some (nat_lit 21)), none⟩])
 (.cond (.tmp (nat_lit 21)) (.region [
  .ins ⟨(.p .mv), [.const (.int .i64 (.ofNat (nat_lit 7)))], (some (nat_lit 5)), none⟩])
 .skip))
 (.seq (.seq (.region [
  .ins ⟨(.p .mv), [.tmp (nat_lit 5)], (some (nat_lit 22)), none⟩,
  .ins ⟨(.p (.bini .neq)), [.tmp (nat_lit 22), .const (.int .i64 (.ofNat (nat_lit 0)))], (some (nat_lit 23)), none⟩])
 (.cond (.tmp (nat_lit 23)) (.seq (.region [
  .ins ⟨(.p (.build [(.str (bs [])), (.str (bs [])), (.bool false)] [])), [], (some (nat_lit 24)), none⟩,
  .ins ⟨(.p .mv), [.tmp (nat_lit 5)], (some (nat_lit 25)), none⟩,
  .ins ⟨(.l (.store (nat_lit 3))), [.tmp (nat_lit 2), .tmp (nat_lit 24)], none, none⟩,
  .ins ⟨(.p .mv), [.tmp (nat_lit 25)], (some (nat_lit 3)), none⟩])
 .ret)
 .skip))
 (.seq (.region [
  .ins ⟨(.p .mv), [.tmp (nat_lit 0)], (some (nat_lit 26)), none⟩,
  .ins ⟨(.p .mv), [.tmp (nat_lit 4)], (some (nat_lit 27)), none⟩,
  .ins ⟨(.c .value), [.const (.func (.func (nat_lit 324)) [] []), .tmp (nat_lit 26), .tmp (nat_lit 27)], (some (nat_lit 28)), none⟩,
  .ins ⟨(.p (.extract (nat_lit 0))), [.tmp (nat_lit 28)], (some (nat_lit 29)), none⟩,
  .ins ⟨(.p (.extract (nat_lit 1))), [.tmp (nat_lit 28)], (some (nat_lit 30)), none⟩,
  .ins ⟨(.l (.store (nat_lit 3))), [.tmp (nat_lit 2), .tmp (nat_lit 29)], none, none⟩,
  .ins ⟨(.p .mv), [.tmp (nat_lit 30)], (some (nat_lit 3)), none⟩])
 .ret)))))⟩

def c309 : Code' := .fn ⟨(nat_lit 47), [],
 (.seq (.region [
  .ins ⟨(.a .box), [.tmp (nat_lit 1)], (some (nat_lit 3)), none⟩])
 (.seq (.region [
  .ins ⟨(.p .mv), [.tmp (nat_lit 0)], (some (nat_lit 4)), none⟩,
  .ins ⟨(.p .nilck), [.tmp (nat_lit 4)], (some (nat_lit 5)), none⟩,
  .ins ⟨(.p (.fieldAddr (nat_lit 5))), [.tmp (nat_lit 5)], (some (nat_lit 6)), none⟩,
  .ins ⟨(.r (.load false (nat_lit 1))), [.tmp (nat_lit 6)], (some (nat_lit 7)), none⟩,
  .ins ⟨(.r (.load true (nat_lit 3))), [.tmp (nat_lit 3)], (some (nat_lit 8)), none⟩,
  .ins ⟨(.a (.buildSlice [(.str (bs [])), (.str (bs [])), (.bool false)] (nat_lit 1) [((nat_lit 0), (nat_lit 3))])), [.tmp (nat_lit 8)], (some (nat_lit 9)), none⟩,
  .ins ⟨(.c .value), [.const (.func (.func (nat_lit 168)) [] []), .tmp (nat_lit 9)], (some (nat_lit 10)), none⟩,
  .ins ⟨(.p (.bini .add)), [.tmp (nat_lit 7), .tmp (nat_lit 10)], (some (nat_lit 11)), none⟩,
  .ins ⟨(.p .nilck), [.tmp (nat_lit 4)], (some (nat_lit 12)), none⟩,
  .ins ⟨(.p (.fieldAddr (nat_lit 5))), [.tmp (nat_lit 12)], (some (nat_lit 13)), none⟩,
  .again ⟨(.r (.load false (nat_lit 1))), [.tmp (nat_lit 6)], (some (nat_lit 7)), none⟩,
  .ins ⟨(.l (.store (nat_lit 1))), [.tmp (nat_lit 13), .tmp (nat_lit 11)], none, none⟩])
 (.seq (.region [
  .ins ⟨(.p .mv), [.tmp (nat_lit 0)], (some (nat_lit 14)), none⟩,
  .ins ⟨(.p .mv), [.tmp (nat_lit 0)], (some (nat_lit 15)), none⟩,
  .ins ⟨(.p .nilck), [.tmp (nat_lit 15)], (some (nat_lit 16)), none⟩,
  .ins ⟨(.p (.fieldAddr (nat_lit 7))), [.tmp (nat_lit 16)], (some (nat_lit 17)), none⟩,
  .ins ⟨(.r (.load false (nat_lit 1))), [.tmp (nat_lit 17)], (some (nat_lit 18)), none⟩,
  .ins ⟨(.p .mv), [.tmp (nat_lit 18)], (some (nat_lit 19)), none⟩,
  .ins ⟨(.p .mv), [.tmp (nat_lit 0)], (some (nat_lit 20)), (some ((nat_lit 19), false))⟩,
  .ins ⟨(.p .nilck), [.tmp (nat_lit 20)], (some (nat_lit 21)), (some ((nat_lit 19), false))⟩,
  .ins ⟨(.p (.fieldAddr (nat_lit 5))), [.tmp (nat_lit 21)], (some (nat_lit 22)), (some ((nat_lit 19), false))⟩,
  .ins ⟨(.r (.load false (nat_lit 1))), [.tmp (nat_lit 22)], (some (nat_lit 23)), (some ((nat_lit 19), false))⟩,
  .ins ⟨(.p .mv), [.tmp (nat_lit 0)], (some (nat_lit 24)), (some ((nat_lit 19), false))⟩,
  .ins ⟨(.p .nilck), [.tmp (nat_lit 24)], (some (nat_lit 25)), (some ((nat_lit 19), false))⟩,
  .ins ⟨(.p (.fieldAddr (nat_lit 4))), [.tmp (nat_lit 25)], (some (nat_lit 26)), (some ((nat_lit 19), false))⟩,
  .ins ⟨(.r (.load false (nat_lit 1))), [.tmp (nat_lit 26)], (some (nat_lit 27)), (some ((nat_lit 19), false))⟩,
  .ins ⟨(.p (.bini .gtr)), [.tmp (nat_lit 23), .tmp (nat_lit 27)], (some (nat_lit 28)), (some ((nat_lit 19), false))⟩,
  .ins ⟨(.p .pick), [.tmp (nat_lit 19), .const (.bool true), .tmp (nat_lit 28)], (some (nat_lit 29)), none⟩,
  .ins ⟨(.p .nilck), [.tmp (nat_lit 14)], (some (nat_lit 30)), none⟩,
  .ins ⟨(.p (.fieldAddr (nat_lit 7))), [.tmp (nat_lit 30)], (some (nat_lit 31)), none⟩,
  .ins ⟨(.l (.store (nat_lit 1))), [.tmp (nat_lit 31), .tmp (nat_lit 29)], none, none⟩])
 (.seq (.region [
  .ins ⟨(.p .mv), [.tmp (nat_lit 0)], (some (nat_lit 32)), none⟩,
  .ins ⟨(.p .nilck), [.tmp (nat_lit 32)], (some (nat_lit 33)), none⟩,
  .ins ⟨(.p (.fieldAddr (nat_lit 7))), [.tmp (nat_lit 33)], (some (nat_lit 34)), none⟩,
  .ins ⟨(.r (.load false (nat_lit 1))), [.tmp (nat_lit 34)], (some (nat_lit 35)), none⟩,
  .ins ⟨(.p (.un .not)), [.tmp (nat_lit 35)], (some (nat_lit 36)), none⟩])
 (.cond (.tmp (nat_lit 36)) (.region [
  .ins ⟨(.p .mv), [.tmp (nat_lit 0)], (some (nat_lit 37)), none⟩,
  .ins ⟨(.p .mv), [.tmp (nat_lit 0)], (some (nat_lit 38)), none⟩,
  .ins ⟨(.p .nilck), [.tmp (nat_lit 38)], (some (nat_lit 39)), none⟩,
  .ins ⟨(.p (.fieldAddr (nat_lit 6))), [.tmp (nat_lit 39)], (some (nat_lit 40)), none⟩,
  .ins ⟨(.r (.load false (nat_lit 1))), [.tmp (nat_lit 40)], (some (nat_lit 41)), none⟩,
  .ins ⟨(.r (.load true (nat_lit 3))), [.tmp (nat_lit 3)], (some (nat_lit 42)), none⟩,
  .ins ⟨(.a (.buildSlice [(.str (bs [])), (.str (bs [])), (.bool false)] (nat_lit 1) [((nat_lit 0), (nat_lit 3))])), [.tmp (nat_lit 42)], (some (nat_lit 43)), none⟩,
  .ins ⟨(.l (.append [(.str (bs [])), (.str (bs [])), (.bool false)] (nat_lit 3) (nat_lit 40))), [.tmp (nat_lit 41), .tmp (nat_lit 43)], (some (nat_lit 44)), none⟩,
  .ins ⟨(.p .nilck), [.tmp (nat_lit 37)], (some (nat_lit 45)), none⟩,
  .ins ⟨(.p (.fieldAddr (nat_lit 6))), [.tmp (nat_lit 45)], (some (nat_lit 46)), none⟩,
  .ins ⟨(.l (.store (nat_lit 1))), [.tmp (nat_lit 46), .tmp (nat_lit 44)], none, none⟩])
 .skip)))))⟩

def c310 : Code' := .fn ⟨(nat_lit 1), [.tmp (nat_lit 0)],
 (.seq (.region [
  .ins ⟨(.p .mv), [.const .nilFunc], (some (nat_lit 0)), none⟩])
 (.seq (.region [
  .ins ⟨(.p .mv), [.const (.func (.func (nat_lit 326)) [] [])], (some (nat_lit 0)), none⟩])
 .ret))⟩

def c319 : Code' := .prim .indexByteStr

end Go.Proofs.YtjjdminaacibeaaGreatDoor.Ev.PairLong
