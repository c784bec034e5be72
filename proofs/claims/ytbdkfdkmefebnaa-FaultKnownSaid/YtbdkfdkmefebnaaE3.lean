/- Part 3 of a proof: what the functions yield. It stands by itself; no condition. -/
import Derived.Test.YtbdkfdkmefebnaaE0
/- The small code of the functions. -/
namespace Go.Ev
set_option linter.unusedVariables false
set_option maxRecDepth 100000
def id_interpreterlaw15_FaultKnown : Nat := 3
def id_interpreterlaw15_gram : Nat := 10
def id_interpreterref03_Bytes : Nat := 11
def id_fault_Own4 : Nat := 12
def id_fault_Inside4 : Nat := 13
def id_interpreterlaw15_awake : Nat := 14
def id_interpreterlaw15_same : Nat := 15
def id_fault_Quote6 : Nat := 16
def id_ip4_Parse : Nat := 24
def id_sum_Pseudo6 : Nat := 29
def id_icmp4_Failure : Nat := 32
def id_strings_Repeat : Nat := 34
def id_interpreterref03_Why : Nat := 35
def id_interpreterref02_Of : Nat := 36
def id_class_Martian4 : Nat := 37
def id_fault_beginning : Nat := 38
def id_icmp4_Bytes : Nat := 39
def id_ip4_Bytes : Nat := 40
def id_fault_fault : Nat := 41
def id_sum_Right : Nat := 42
def id_fault_Inside4_1 : Nat := 43
def id_fault_short : Nat := 44
def id_interpreterref03_Parse : Nat := 45
def id_head46_Proto : Nat := 46
def id_fault_within : Nat := 47
def id_fault_big : Nat := 48
def id_fault_turn6 : Nat := 49
def id_sum_Of : Nat := 57
def id_ip4_fault : Nat := 61
def id_ip4_Parse_1 : Nat := 62
def id_ip4_why : Nat := 63
def id_sum_big : Nat := 72
def id_interpreterref03_within : Nat := 81
def id_interpreterref02_Total : Nat := 82
def id_interpreterref02_Words : Nat := 83
def id_num_Big : Nat := 84
def id_ip4_big : Nat := 85
def id_interpreterref03_number : Nat := 86
def id_fault_ported : Nat := 87
def id_fault_echoed : Nat := 88
def id_interpreterref01_Reader_Number : Nat := 89
def id_sum_fold : Nat := 92
def id_sum_add : Nat := 93
def id_ip4_byteful : Nat := 96
def id_fault_update : Nat := 111
def id_interpreterref01_Reader_Text : Nat := 112
def id_sum_Update : Nat := 123
def id_sum_even : Nat := 125

def ty_bool : Nat := 4
def ty_ptr_num_Fault : Nat := 97

/-- interpreter/interpreterlaw15.FaultKnown -/
def c_interpreterlaw15_FaultKnown : MFn := ⟨0, 99, (.seq (.reg [
  ⟨(some 0), none, .mov (.cst (LV.bool false))⟩] []) (.seq (.reg [
  ⟨(some 18), none, .call id_interpreterlaw15_gram [(.cst (LV.int .i64 600))]⟩,
  ⟨(some 1), none, .alloc (LV.agg [(LV.int .i64 0), (LV.int .i64 0), (LV.int .i64 0), (LV.int .i64 0), (LV.int .i64 0), (LV.bool false), (LV.bool false), (LV.bytes [0, 0, 0, 0]), (LV.bytes [0, 0, 0, 0]), (LV.str []), (LV.str [])])⟩,
  ⟨none, none, .store 17 true (.tmp 1) (.tmp 18)⟩] []) (.seq (.reg [
  ⟨(some 19), none, .fieldAddr 3 3 (.tmp 1)⟩,
  ⟨none, none, .store 1 false (.tmp 19) (.cst (LV.int .i64 1))⟩] []) (.seq (.reg [
  ⟨(some 20), none, .fieldAddr 10 16 (.tmp 1)⟩,
  ⟨(some 21), none, .load 1 false (.tmp 20)⟩,
  ⟨(some 22), none, .bin .add (.cst (LV.str [11])) (.tmp 21)⟩,
  ⟨(some 23), none, .fieldAddr 10 16 (.tmp 1)⟩,
  ⟨none, none, .store 1 false (.tmp 23) (.tmp 22)⟩] []) (.seq (.reg [
  ⟨(some 25), none, .load 17 true (.tmp 1)⟩,
  ⟨(some 26), none, .call id_interpreterref03_Bytes [(.tmp 25)]⟩,
  ⟨(some 24), none, .mov (.tmp 26)⟩,
  ⟨(some 27), none, .extract (.tmp 24) 0⟩,
  ⟨(some 28), none, .extract (.tmp 24) 1⟩,
  ⟨(some 2), none, .mov (.tmp 27)⟩,
  ⟨(some 3), none, .mov (.tmp 28)⟩] []) (.seq (.reg [
  ⟨(some 30), none, .build (LV.agg [(LV.int .i64 0), (LV.int .i64 0), (LV.int .u32 0), (LV.str [])]) [(0, (.cst (LV.int .i64 11)))]⟩,
  ⟨(some 31), none, .mov (.tmp 2)⟩,
  ⟨(some 32), none, .build (LV.bytes [0, 0, 0, 0]) [(0, (.cst (LV.int .u8 9)))]⟩,
  ⟨(some 33), none, .call id_fault_Own4 [(.tmp 30), (.tmp 31), (.tmp 32), (.cst (LV.int .i64 1)), (.cst (LV.int .i64 1500))]⟩,
  ⟨(some 29), none, .mov (.tmp 33)⟩,
  ⟨(some 34), none, .extract (.tmp 29) 0⟩,
  ⟨(some 35), none, .extract (.tmp 29) 1⟩,
  ⟨(some 4), none, .mov (.tmp 34)⟩,
  ⟨(some 5), none, .mov (.tmp 35)⟩] []) (.seq (.reg [
  ⟨(some 37), none, .call id_interpreterlaw15_gram [(.cst (LV.int .i64 80))]⟩,
  ⟨(some 38), none, .call id_interpreterref03_Bytes [(.tmp 37)]⟩,
  ⟨(some 36), none, .mov (.tmp 38)⟩,
  ⟨(some 39), none, .extract (.tmp 36) 0⟩,
  ⟨(some 40), none, .extract (.tmp 36) 1⟩,
  ⟨(some 6), none, .mov (.tmp 39)⟩,
  ⟨(some 7), none, .mov (.tmp 40)⟩] []) (.seq (.reg [
  ⟨(some 42), none, .mov (.tmp 6)⟩,
  ⟨(some 43), none, .slc 0 (.tmp 42) none (some (.cst (LV.int .i64 28)))⟩,
  ⟨(some 44), none, .call id_fault_Inside4 [(.tmp 43)]⟩,
  ⟨(some 41), none, .mov (.tmp 44)⟩,
  ⟨(some 45), none, .extract (.tmp 41) 0⟩,
  ⟨(some 46), none, .extract (.tmp 41) 1⟩,
  ⟨(some 47), none, .extract (.tmp 41) 2⟩,
  ⟨(some 8), none, .alloc (LV.agg [(LV.int .i64 0), (LV.int .i64 0), (LV.int .i64 0), (LV.int .i64 0), (LV.int .i64 0), (LV.bool false), (LV.bool false), (LV.bytes [0, 0, 0, 0]), (LV.bytes [0, 0, 0, 0]), (LV.str []), (LV.str [])])⟩,
  ⟨none, none, .store 17 true (.tmp 8) (.tmp 45)⟩,
  ⟨(some 9), none, .mov (.tmp 46)⟩,
  ⟨(some 10), none, .mov (.tmp 47)⟩] []) (.seq (.reg [
  ⟨(some 49), none, .mov (.tmp 6)⟩,
  ⟨(some 50), none, .slc 0 (.tmp 49) none (some (.cst (LV.int .i64 27)))⟩,
  ⟨(some 51), none, .call id_fault_Inside4 [(.tmp 50)]⟩,
  ⟨(some 48), none, .mov (.tmp 51)⟩,
  ⟨(some 52), none, .extract (.tmp 48) 0⟩,
  ⟨(some 53), none, .extract (.tmp 48) 1⟩,
  ⟨(some 54), none, .extract (.tmp 48) 2⟩,
  ⟨(some 11), none, .alloc (LV.agg [(LV.int .i64 0), (LV.int .i64 0), (LV.int .i64 0), (LV.int .i64 0), (LV.int .i64 0), (LV.bool false), (LV.bool false), (LV.bytes [0, 0, 0, 0]), (LV.bytes [0, 0, 0, 0]), (LV.str []), (LV.str [])])⟩,
  ⟨none, none, .store 17 true (.tmp 11) (.tmp 52)⟩,
  ⟨(some 12), none, .mov (.tmp 53)⟩,
  ⟨(some 13), none, .mov (.tmp 54)⟩] []) (.seq (.reg [
  ⟨(some 56), none, .build (LV.agg [(LV.int .i64 0), (LV.int .i64 0), (LV.int .u32 0), (LV.str [])]) [(0, (.cst (LV.int .i64 3))), (1, (.cst (LV.int .i64 1)))]⟩,
  ⟨(some 57), none, .mov (.tmp 6)⟩,
  ⟨(some 58), none, .build (LV.bytes [0, 0, 0, 0]) [(0, (.cst (LV.int .u8 9)))]⟩,
  ⟨(some 59), none, .call id_fault_Own4 [(.tmp 56), (.tmp 57), (.tmp 58), (.cst (LV.int .i64 1)), (.cst (LV.int .i64 68))]⟩,
  ⟨(some 55), none, .mov (.tmp 59)⟩,
  ⟨(some 60), none, .extract (.tmp 55) 0⟩,
  ⟨(some 61), none, .extract (.tmp 55) 1⟩,
  ⟨(some 14), none, .mov (.tmp 60)⟩,
  ⟨(some 15), none, .mov (.tmp 61)⟩] []) (.seq (.reg [
  ⟨(some 63), none, .build (LV.agg [(LV.int .i64 0), (LV.int .i64 0), (LV.int .u32 0), (LV.str [])]) [(0, (.cst (LV.int .i64 3))), (1, (.cst (LV.int .i64 1)))]⟩,
  ⟨(some 64), none, .mov (.tmp 6)⟩,
  ⟨(some 65), none, .build (LV.bytes [0, 0, 0, 0]) [(0, (.cst (LV.int .u8 9)))]⟩,
  ⟨(some 66), none, .call id_fault_Own4 [(.tmp 63), (.tmp 64), (.tmp 65), (.cst (LV.int .i64 1)), (.cst (LV.int .i64 67))]⟩,
  ⟨(some 62), none, .mov (.tmp 66)⟩,
  ⟨(some 67), none, .extract (.tmp 62) 0⟩,
  ⟨(some 68), none, .extract (.tmp 62) 1⟩,
  ⟨(some 16), none, .mov (.tmp 67)⟩,
  ⟨(some 17), none, .mov (.tmp 68)⟩] []) (.seq (.reg [
  ⟨(some 69), none, .call id_interpreterlaw15_awake []⟩,
  ⟨(some 70), none, .mov (.tmp 69)⟩,
  ⟨(some 71), (some (70, true)), .mov (.tmp 5)⟩,
  ⟨(some 72), (some (70, true)), .un .not (.tmp 71)⟩,
  ⟨(some 73), none, .pick (.tmp 70) (.tmp 72) (.cst (LV.bool false))⟩,
  ⟨(some 74), none, .mov (.tmp 73)⟩,
  ⟨(some 75), (some (74, true)), .mov (.tmp 10)⟩,
  ⟨(some 76), (some (74, true)), .eqNil 1 false (.tmp 75)⟩,
  ⟨(some 77), none, .pick (.tmp 74) (.tmp 76) (.cst (LV.bool false))⟩,
  ⟨(some 78), none, .mov (.tmp 77)⟩,
  ⟨(some 79), (some (78, true)), .mov (.tmp 9)⟩,
  ⟨(some 80), (some (78, true)), .bin .eql (.tmp 79) (.cst (LV.int .i64 80))⟩,
  ⟨(some 81), none, .pick (.tmp 78) (.tmp 80) (.cst (LV.bool false))⟩,
  ⟨(some 82), none, .mov (.tmp 81)⟩,
  ⟨(some 83), (some (82, true)), .fieldAddr 10 16 (.tmp 8)⟩,
  ⟨(some 84), (some (82, true)), .load 1 false (.tmp 83)⟩,
  ⟨(some 85), (some (82, true)), .len true (.tmp 84)⟩,
  ⟨(some 86), (some (82, true)), .bin .eql (.tmp 85) (.cst (LV.int .i64 8))⟩,
  ⟨(some 87), none, .pick (.tmp 82) (.tmp 86) (.cst (LV.bool false))⟩,
  ⟨(some 88), none, .mov (.tmp 87)⟩,
  ⟨(some 89), (some (88, true)), .mov (.tmp 13)⟩,
  ⟨(some 90), (some (88, true)), .call id_interpreterlaw15_same [(.tmp 89), (.cst (LV.int .i64 7))]⟩,
  ⟨(some 91), none, .pick (.tmp 88) (.tmp 90) (.cst (LV.bool false))⟩,
  ⟨(some 92), none, .mov (.tmp 91)⟩,
  ⟨(some 93), (some (92, true)), .mov (.tmp 15)⟩,
  ⟨(some 94), none, .pick (.tmp 92) (.tmp 93) (.cst (LV.bool false))⟩,
  ⟨(some 95), none, .mov (.tmp 94)⟩,
  ⟨(some 96), (some (95, true)), .mov (.tmp 17)⟩,
  ⟨(some 97), (some (95, true)), .un .not (.tmp 96)⟩,
  ⟨(some 98), none, .pick (.tmp 95) (.tmp 97) (.cst (LV.bool false))⟩,
  ⟨(some 0), none, .mov (.tmp 98)⟩] []) .ret)))))))))))), [.tmp 0]⟩
/-- interpreter/interpreterlaw15.gram -/
def c_interpreterlaw15_gram : MFn := ⟨1, 8, (.seq (.reg [
  ⟨(some 2), none, .alloc (LV.agg [(LV.int .i64 0), (LV.int .i64 0), (LV.int .i64 0), (LV.int .i64 0), (LV.int .i64 0), (LV.bool false), (LV.bool false), (LV.bytes [0, 0, 0, 0]), (LV.bytes [0, 0, 0, 0]), (LV.str []), (LV.str [])])⟩] []) (.seq (.reg [
  ⟨(some 3), none, .build (LV.bytes [0, 0, 0, 0]) [(0, (.cst (LV.int .u8 192))), (1, (.cst (LV.int .u8 0))), (2, (.cst (LV.int .u8 2))), (3, (.cst (LV.int .u8 1)))]⟩,
  ⟨(some 4), none, .build (LV.bytes [0, 0, 0, 0]) [(0, (.cst (LV.int .u8 192))), (1, (.cst (LV.int .u8 0))), (2, (.cst (LV.int .u8 2))), (3, (.cst (LV.int .u8 2)))]⟩,
  ⟨(some 5), none, .mov (.tmp 0)⟩,
  ⟨(some 6), none, .call id_strings_Repeat [(.cst (LV.str [120])), (.tmp 5)]⟩,
  ⟨(some 7), none, .build (LV.agg [(LV.int .i64 0), (LV.int .i64 0), (LV.int .i64 0), (LV.int .i64 0), (LV.int .i64 0), (LV.bool false), (LV.bool false), (LV.bytes [0, 0, 0, 0]), (LV.bytes [0, 0, 0, 0]), (LV.str []), (LV.str [])]) [(2, (.cst (LV.int .i64 9))), (3, (.cst (LV.int .i64 17))), (7, (.tmp 3)), (8, (.tmp 4)), (10, (.tmp 6))]⟩,
  ⟨none, none, .store 17 true (.tmp 2) (.tmp 7)⟩] []) .ret)), [.cell 2 17 true]⟩
/-- interpreter/interpreterref03.Bytes -/
def c_interpreterref03_Bytes : MFn := ⟨1, 115, (.seq (.reg [
  ⟨(some 1), none, .box (.tmp 0)⟩,
  ⟨(some 2), none, .mov (.cst (LV.str []))⟩,
  ⟨(some 3), none, .mov (.cst (LV.int .i64 0))⟩] []) (.seq (.reg [
  ⟨(some 12), none, .load 17 true (.tmp 1)⟩,
  ⟨(some 13), none, .call id_interpreterref03_Why [(.tmp 12)]⟩,
  ⟨(some 4), none, .mov (.tmp 13)⟩] []) (.seq (.seq (.reg [
  ⟨(some 14), none, .mov (.tmp 4)⟩,
  ⟨(some 15), none, .bin .neq (.tmp 14) (.cst (LV.int .i64 0))⟩] []) (.cond (.tmp 15) (.seq (.reg [
  ⟨(some 16), none, .mov (.tmp 4)⟩,
  ⟨(some 2), none, .mov (.cst (LV.str []))⟩,
  ⟨(some 3), none, .mov (.tmp 16)⟩] []) .ret) .skip)) (.seq (.reg [
  ⟨(some 17), none, .fieldAddr 9 15 (.tmp 1)⟩,
  ⟨(some 18), none, .load 1 false (.tmp 17)⟩,
  ⟨(some 19), none, .len true (.tmp 18)⟩,
  ⟨(some 20), none, .bin .add (.cst (LV.int .i64 20)) (.tmp 19)⟩,
  ⟨(some 5), none, .mov (.tmp 20)⟩] []) (.seq (.reg [
  ⟨(some 21), none, .fieldAddr 4 4 (.tmp 1)⟩,
  ⟨(some 22), none, .load 1 false (.tmp 21)⟩,
  ⟨(some 23), none, .bin .quo (.tmp 22) (.cst (LV.int .i64 8))⟩,
  ⟨(some 6), none, .mov (.tmp 23)⟩] []) (.seq (.seq (.reg [
  ⟨(some 24), none, .fieldAddr 6 6 (.tmp 1)⟩,
  ⟨(some 25), none, .load 1 false (.tmp 24)⟩] []) (.cond (.tmp 25) (.reg [
  ⟨(some 26), none, .mov (.tmp 6)⟩,
  ⟨(some 27), none, .bin .add (.tmp 26) (.cst (LV.int .i64 8192))⟩,
  ⟨(some 6), none, .mov (.tmp 27)⟩] []) .skip)) (.seq (.seq (.reg [
  ⟨(some 28), none, .fieldAddr 5 5 (.tmp 1)⟩,
  ⟨(some 29), none, .load 1 false (.tmp 28)⟩] []) (.cond (.tmp 29) (.reg [
  ⟨(some 30), none, .mov (.tmp 6)⟩,
  ⟨(some 31), none, .bin .add (.tmp 30) (.cst (LV.int .i64 16384))⟩,
  ⟨(some 6), none, .mov (.tmp 31)⟩] []) .skip)) (.seq (.reg [
  ⟨(some 32), none, .mov (.tmp 5)⟩,
  ⟨(some 33), none, .fieldAddr 10 16 (.tmp 1)⟩,
  ⟨(some 34), none, .load 1 false (.tmp 33)⟩,
  ⟨(some 35), none, .len true (.tmp 34)⟩,
  ⟨(some 36), none, .bin .add (.tmp 32) (.tmp 35)⟩,
  ⟨(some 7), none, .mov (.tmp 36)⟩] []) (.seq (.reg [
  ⟨(some 37), none, .mov (.tmp 5)⟩,
  ⟨(some 38), none, .bin .quo (.tmp 37) (.cst (LV.int .i64 4))⟩,
  ⟨(some 39), none, .bin .add (.cst (LV.int .i64 64)) (.tmp 38)⟩,
  ⟨(some 40), none, .conv .u8 (.tmp 39)⟩,
  ⟨(some 41), none, .fieldAddr 0 0 (.tmp 1)⟩,
  ⟨(some 42), none, .load 1 false (.tmp 41)⟩,
  ⟨(some 43), none, .conv .u8 (.tmp 42)⟩,
  ⟨(some 44), none, .mov (.tmp 7)⟩,
  ⟨(some 45), none, .bin .quo (.tmp 44) (.cst (LV.int .i64 256))⟩,
  ⟨(some 46), none, .conv .u8 (.tmp 45)⟩,
  ⟨(some 47), none, .mov (.tmp 7)⟩,
  ⟨(some 48), none, .bin .rem (.tmp 47) (.cst (LV.int .i64 256))⟩,
  ⟨(some 49), none, .conv .u8 (.tmp 48)⟩,
  ⟨(some 50), none, .fieldAddr 1 1 (.tmp 1)⟩,
  ⟨(some 51), none, .load 1 false (.tmp 50)⟩,
  ⟨(some 52), none, .bin .quo (.tmp 51) (.cst (LV.int .i64 256))⟩,
  ⟨(some 53), none, .conv .u8 (.tmp 52)⟩,
  ⟨(some 54), none, .fieldAddr 1 1 (.tmp 1)⟩,
  ⟨(some 55), none, .load 1 false (.tmp 54)⟩,
  ⟨(some 56), none, .bin .rem (.tmp 55) (.cst (LV.int .i64 256))⟩,
  ⟨(some 57), none, .conv .u8 (.tmp 56)⟩,
  ⟨(some 58), none, .mov (.tmp 6)⟩,
  ⟨(some 59), none, .bin .quo (.tmp 58) (.cst (LV.int .i64 256))⟩,
  ⟨(some 60), none, .conv .u8 (.tmp 59)⟩,
  ⟨(some 61), none, .mov (.tmp 6)⟩,
  ⟨(some 62), none, .bin .rem (.tmp 61) (.cst (LV.int .i64 256))⟩,
  ⟨(some 63), none, .conv .u8 (.tmp 62)⟩,
  ⟨(some 64), none, .fieldAddr 2 2 (.tmp 1)⟩,
  ⟨(some 65), none, .load 1 false (.tmp 64)⟩,
  ⟨(some 66), none, .conv .u8 (.tmp 65)⟩,
  ⟨(some 67), none, .fieldAddr 3 3 (.tmp 1)⟩,
  ⟨(some 68), none, .load 1 false (.tmp 67)⟩,
  ⟨(some 69), none, .conv .u8 (.tmp 68)⟩,
  ⟨(some 70), none, .bslM 12 [(0, (.tmp 40)), (1, (.tmp 43)), (2, (.tmp 46)), (3, (.tmp 49)), (4, (.tmp 53)), (5, (.tmp 57)), (6, (.tmp 60)), (7, (.tmp 63)), (8, (.tmp 66)), (9, (.tmp 69)), (10, (.cst (LV.int .u8 0))), (11, (.cst (LV.int .u8 0)))]⟩,
  ⟨(some 8), none, .mov (.tmp 70)⟩] []) (.seq (.seq (.reg [
  ⟨(some 9), none, .mov (.cst (LV.int .i64 0))⟩] []) (.block 0 (.loop [8, 9] [71, 72, 75, 76, 77, 78, 79, 80, 81, 73, 74] (.seq (.seq (.reg [
  ⟨(some 71), none, .mov (.tmp 9)⟩,
  ⟨(some 72), none, .bin .lss (.tmp 71) (.cst (LV.int .i64 4))⟩] []) (.cond (.tmp 72) .skip (.exit 0))) (.seq (.block 1 (.reg [
  ⟨(some 75), none, .mov (.tmp 8)⟩,
  ⟨(some 76), none, .mov (.tmp 9)⟩,
  ⟨(some 77), none, .fieldAddr 7 7 (.tmp 1)⟩,
  ⟨(some 78), none, .idxAddr (some 4) 1 (.tmp 77) (.tmp 76)⟩,
  ⟨(some 79), none, .load 1 false (.tmp 78)⟩,
  ⟨(some 80), none, .bsl (LV.int .u8 0) 1 [(0, (.tmp 79))]⟩,
  ⟨(some 81), none, .append 1 1 (.tmp 75) (.tmp 80)⟩,
  ⟨(some 8), none, .mov (.tmp 81)⟩] [])) (.reg [
  ⟨(some 73), none, .mov (.tmp 9)⟩,
  ⟨(some 74), none, .bin .add (.tmp 73) (.cst (LV.int .i64 1))⟩,
  ⟨(some 9), none, .mov (.tmp 74)⟩] [])))))) (.seq (.seq (.reg [
  ⟨(some 10), none, .mov (.cst (LV.int .i64 0))⟩] []) (.block 2 (.loop [8, 10] [82, 83, 86, 87, 88, 89, 90, 91, 92, 84, 85] (.seq (.seq (.reg [
  ⟨(some 82), none, .mov (.tmp 10)⟩,
  ⟨(some 83), none, .bin .lss (.tmp 82) (.cst (LV.int .i64 4))⟩] []) (.cond (.tmp 83) .skip (.exit 2))) (.seq (.block 3 (.reg [
  ⟨(some 86), none, .mov (.tmp 8)⟩,
  ⟨(some 87), none, .mov (.tmp 10)⟩,
  ⟨(some 88), none, .fieldAddr 8 11 (.tmp 1)⟩,
  ⟨(some 89), none, .idxAddr (some 4) 1 (.tmp 88) (.tmp 87)⟩,
  ⟨(some 90), none, .load 1 false (.tmp 89)⟩,
  ⟨(some 91), none, .bsl (LV.int .u8 0) 1 [(0, (.tmp 90))]⟩,
  ⟨(some 92), none, .append 1 1 (.tmp 86) (.tmp 91)⟩,
  ⟨(some 8), none, .mov (.tmp 92)⟩] [])) (.reg [
  ⟨(some 84), none, .mov (.tmp 10)⟩,
  ⟨(some 85), none, .bin .add (.tmp 84) (.cst (LV.int .i64 1))⟩,
  ⟨(some 10), none, .mov (.tmp 85)⟩] [])))))) (.seq (.reg [
  ⟨(some 93), none, .mov (.tmp 8)⟩,
  ⟨(some 94), none, .fieldAddr 9 15 (.tmp 1)⟩,
  ⟨(some 95), none, .load 1 false (.tmp 94)⟩,
  ⟨(some 96), none, .append 1 1 (.tmp 93) (.tmp 95)⟩,
  ⟨(some 8), none, .mov (.tmp 96)⟩] []) (.seq (.reg [
  ⟨(some 97), none, .mov (.tmp 8)⟩,
  ⟨(some 98), none, .b2s (.tmp 97)⟩,
  ⟨(some 99), none, .call id_interpreterref02_Of [(.tmp 98)]⟩,
  ⟨(some 11), none, .mov (.tmp 99)⟩] []) (.seq (.reg [
  ⟨(some 100), none, .mov (.tmp 8)⟩,
  ⟨(some 101), none, .mov (.tmp 11)⟩,
  ⟨(some 102), none, .bin .quo (.tmp 101) (.cst (LV.int .i64 256))⟩,
  ⟨(some 103), none, .conv .u8 (.tmp 102)⟩,
  ⟨(some 104), none, .idxAddr none 1 (.tmp 100) (.cst (LV.int .i64 10))⟩,
  ⟨none, none, .store 1 false (.tmp 104) (.tmp 103)⟩] []) (.seq (.reg [
  ⟨(some 105), none, .mov (.tmp 8)⟩,
  ⟨(some 106), none, .mov (.tmp 11)⟩,
  ⟨(some 107), none, .bin .rem (.tmp 106) (.cst (LV.int .i64 256))⟩,
  ⟨(some 108), none, .conv .u8 (.tmp 107)⟩,
  ⟨(some 109), none, .idxAddr none 1 (.tmp 105) (.cst (LV.int .i64 11))⟩,
  ⟨none, none, .store 1 false (.tmp 109) (.tmp 108)⟩] []) (.seq (.reg [
  ⟨(some 110), none, .mov (.tmp 8)⟩,
  ⟨(some 111), none, .b2s (.tmp 110)⟩,
  ⟨(some 112), none, .fieldAddr 10 16 (.tmp 1)⟩,
  ⟨(some 113), none, .load 1 false (.tmp 112)⟩,
  ⟨(some 114), none, .bin .add (.tmp 111) (.tmp 113)⟩,
  ⟨(some 2), none, .mov (.tmp 114)⟩,
  ⟨(some 3), none, .mov (.cst (LV.int .i64 0))⟩] []) .ret)))))))))))))))), [.tmp 2, .tmp 3]⟩
/-- interpreter/fault.Own4 -/
def c_fault_Own4 : MFn := ⟨5, 114, (.seq (.reg [
  ⟨(some 5), none, .boxM (.tmp 0)⟩,
  ⟨(some 7), none, .box (.tmp 2)⟩,
  ⟨(some 10), none, .mov (.cst (LV.str []))⟩,
  ⟨(some 11), none, .mov (.cst (LV.bool false))⟩] []) (.seq (.reg [
  ⟨(some 20), none, .mov (.tmp 1)⟩,
  ⟨(some 21), none, .call id_ip4_Parse [(.tmp 20)]⟩,
  ⟨(some 19), none, .mov (.tmp 21)⟩,
  ⟨(some 22), none, .extract (.tmp 19) 0⟩,
  ⟨(some 23), none, .extract (.tmp 19) 1⟩,
  ⟨(some 12), none, .alloc (LV.agg [(LV.int .i64 0), (LV.int .i64 0), (LV.int .i64 0), (LV.int .i64 0), (LV.int .i64 0), (LV.bool false), (LV.bool false), (LV.bytes [0, 0, 0, 0]), (LV.bytes [0, 0, 0, 0]), (LV.str []), (LV.str [])])⟩,
  ⟨none, none, .store 17 true (.tmp 12) (.tmp 22)⟩,
  ⟨(some 13), none, .mov (.tmp 23)⟩] []) (.seq (.block 0 (.seq (.reg [
  ⟨(some 25), none, .mov (.tmp 13)⟩,
  ⟨(some 26), none, .eqNil 1 true (.tmp 25)⟩,
  ⟨(some 27), none, .mov (.tmp 26)⟩,
  ⟨(some 28), (some (27, false)), .load 4 true (.tmp 5)⟩,
  ⟨(some 29), (some (27, false)), .call id_icmp4_Failure [(.tmp 28)]⟩,
  ⟨(some 30), (some (27, false)), .un .not (.tmp 29)⟩,
  ⟨(some 31), none, .pick (.tmp 27) (.cst (LV.bool true)) (.tmp 30)⟩,
  ⟨(some 32), none, .mov (.tmp 31)⟩,
  ⟨(some 33), (some (32, false)), .fieldAddr 4 4 (.tmp 12)⟩,
  ⟨(some 34), (some (32, false)), .load 1 false (.tmp 33)⟩,
  ⟨(some 35), (some (32, false)), .bin .gtr (.tmp 34) (.cst (LV.int .i64 0))⟩,
  ⟨(some 36), none, .pick (.tmp 32) (.cst (LV.bool true)) (.tmp 35)⟩,
  ⟨(some 37), none, .mov (.tmp 36)⟩,
  ⟨(some 38), (some (37, false)), .fieldAddr 7 7 (.tmp 12)⟩,
  ⟨(some 39), (some (37, false)), .load 4 true (.tmp 38)⟩,
  ⟨(some 40), (some (37, false)), .call id_class_Martian4 [(.tmp 39)]⟩,
  ⟨(some 41), none, .pick (.tmp 37) (.cst (LV.bool true)) (.tmp 40)⟩,
  ⟨(some 42), none, .mov (.tmp 41)⟩,
  ⟨(some 43), (some (42, false)), .mov (.tmp 4)⟩,
  ⟨(some 44), (some (42, false)), .bin .lss (.tmp 43) (.cst (LV.int .i64 68))⟩,
  ⟨(some 45), none, .pick (.tmp 42) (.cst (LV.bool true)) (.tmp 44)⟩,
  ⟨(some 46), none, .mov (.tmp 45)⟩,
  ⟨(some 47), (some (46, false)), .mov (.tmp 4)⟩,
  ⟨(some 48), (some (46, false)), .bin .gtr (.tmp 47) (.cst (LV.int .i64 65535))⟩,
  ⟨(some 49), none, .pick (.tmp 46) (.cst (LV.bool true)) (.tmp 48)⟩,
  ⟨(some 24), none, .mov (.tmp 49)⟩] []) (.cond (.tmp 24) (.seq (.reg [
  ⟨(some 10), none, .mov (.cst (LV.str []))⟩,
  ⟨(some 11), none, .mov (.cst (LV.bool false))⟩] []) .ret) (.seq (.reg [
  ⟨(some 51), none, .fieldAddr 3 3 (.tmp 12)⟩,
  ⟨(some 52), none, .load 1 false (.tmp 51)⟩,
  ⟨(some 53), none, .bin .eql (.tmp 52) (.cst (LV.int .i64 1))⟩,
  ⟨(some 54), none, .mov (.tmp 53)⟩,
  ⟨(some 55), (some (54, true)), .fieldAddr 10 16 (.tmp 12)⟩,
  ⟨(some 56), (some (54, true)), .load 1 false (.tmp 55)⟩,
  ⟨(some 57), (some (54, true)), .bin .eql (.tmp 56) (.cst (LV.str []))⟩,
  ⟨(some 58), (some (54, true)), .mov (.tmp 57)⟩,
  ⟨(some 59), (some (58, false)), .fieldAddr 10 16 (.tmp 12)⟩,
  ⟨(some 60), (some (58, false)), .load 1 false (.tmp 59)⟩,
  ⟨(some 61), (some (58, false)), .idxStr (.tmp 60) (.cst (LV.int .i64 0))⟩,
  ⟨(some 62), (some (58, false)), .conv .i64 (.tmp 61)⟩,
  ⟨(some 63), (some (58, false)), .build (LV.agg [(LV.int .i64 0), (LV.int .i64 0), (LV.int .u32 0), (LV.str [])]) [(0, (.tmp 62))]⟩,
  ⟨(some 64), (some (58, false)), .call id_icmp4_Failure [(.tmp 63)]⟩,
  ⟨(some 65), (some (54, true)), .pick (.tmp 58) (.cst (LV.bool true)) (.tmp 64)⟩,
  ⟨(some 66), none, .pick (.tmp 54) (.tmp 65) (.cst (LV.bool false))⟩,
  ⟨(some 50), none, .mov (.tmp 66)⟩] []) (.cond (.tmp 50) (.seq (.reg [
  ⟨(some 10), none, .mov (.cst (LV.str []))⟩,
  ⟨(some 11), none, .mov (.cst (LV.bool false))⟩] []) .ret) .skip))))) (.seq (.reg [
  ⟨(some 67), none, .fieldAddr 9 15 (.tmp 12)⟩,
  ⟨(some 68), none, .load 1 false (.tmp 67)⟩,
  ⟨(some 69), none, .len true (.tmp 68)⟩,
  ⟨(some 70), none, .bin .add (.cst (LV.int .i64 20)) (.tmp 69)⟩,
  ⟨(some 14), none, .mov (.tmp 70)⟩] []) (.seq (.reg [
  ⟨(some 72), none, .mov (.tmp 1)⟩,
  ⟨(some 73), none, .mov (.tmp 14)⟩,
  ⟨(some 74), none, .fieldAddr 10 16 (.tmp 12)⟩,
  ⟨(some 75), none, .load 1 false (.tmp 74)⟩,
  ⟨(some 76), none, .len true (.tmp 75)⟩,
  ⟨(some 77), none, .bin .add (.tmp 73) (.tmp 76)⟩,
  ⟨(some 78), none, .slc 0 (.tmp 72) none (some (.tmp 77))⟩,
  ⟨(some 79), none, .mov (.tmp 14)⟩,
  ⟨(some 80), none, .mov (.tmp 4)⟩,
  ⟨(some 81), none, .minmax false (.cst (LV.int .i64 576)) [(.tmp 80)]⟩,
  ⟨(some 82), none, .bin .sub (.tmp 81) (.cst (LV.int .i64 20))⟩,
  ⟨(some 83), none, .bin .sub (.tmp 82) (.cst (LV.int .i64 8))⟩,
  ⟨(some 84), none, .call id_fault_beginning [(.tmp 78), (.tmp 79), (.tmp 83)]⟩,
  ⟨(some 71), none, .mov (.tmp 84)⟩,
  ⟨(some 85), none, .extract (.tmp 71) 0⟩,
  ⟨(some 86), none, .extract (.tmp 71) 1⟩,
  ⟨(some 15), none, .mov (.tmp 85)⟩,
  ⟨(some 16), none, .mov (.tmp 86)⟩] []) (.seq (.reg [
  ⟨(some 87), none, .mov (.tmp 15)⟩,
  ⟨(some 88), none, .fieldAddr 3 3 (.tmp 5)⟩,
  ⟨none, none, .store 1 false (.tmp 88) (.tmp 87)⟩] []) (.seq (.reg [
  ⟨(some 90), none, .load 4 true (.tmp 5)⟩,
  ⟨(some 91), none, .call id_icmp4_Bytes [(.tmp 90)]⟩,
  ⟨(some 89), none, .mov (.tmp 91)⟩,
  ⟨(some 92), none, .extract (.tmp 89) 0⟩,
  ⟨(some 93), none, .extract (.tmp 89) 1⟩,
  ⟨(some 17), none, .mov (.tmp 92)⟩,
  ⟨(some 13), none, .mov (.tmp 93)⟩] []) (.seq (.seq (.reg [
  ⟨(some 94), none, .mov (.tmp 16)⟩,
  ⟨(some 95), none, .un .not (.tmp 94)⟩,
  ⟨(some 96), none, .mov (.tmp 95)⟩,
  ⟨(some 97), (some (96, false)), .mov (.tmp 13)⟩,
  ⟨(some 98), (some (96, false)), .eqNil 1 true (.tmp 97)⟩,
  ⟨(some 99), none, .pick (.tmp 96) (.cst (LV.bool true)) (.tmp 98)⟩] []) (.cond (.tmp 99) (.seq (.reg [
  ⟨(some 10), none, .mov (.cst (LV.str []))⟩,
  ⟨(some 11), none, .mov (.cst (LV.bool false))⟩] []) .ret) .skip)) (.seq (.reg [
  ⟨(some 101), none, .mov (.tmp 3)⟩,
  ⟨(some 102), none, .bin .and (.tmp 101) (.cst (LV.int .i64 65535))⟩,
  ⟨(some 103), none, .load 4 true (.tmp 7)⟩,
  ⟨(some 104), none, .fieldAddr 7 7 (.tmp 12)⟩,
  ⟨(some 105), none, .load 4 true (.tmp 104)⟩,
  ⟨(some 106), none, .mov (.tmp 17)⟩,
  ⟨(some 107), none, .build (LV.agg [(LV.int .i64 0), (LV.int .i64 0), (LV.int .i64 0), (LV.int .i64 0), (LV.int .i64 0), (LV.bool false), (LV.bool false), (LV.bytes [0, 0, 0, 0]), (LV.bytes [0, 0, 0, 0]), (LV.str []), (LV.str [])]) [(1, (.tmp 102)), (2, (.cst (LV.int .i64 64))), (3, (.cst (LV.int .i64 1))), (7, (.tmp 103)), (8, (.tmp 105)), (10, (.tmp 106))]⟩,
  ⟨(some 108), none, .call id_ip4_Bytes [(.tmp 107)]⟩,
  ⟨(some 100), none, .mov (.tmp 108)⟩,
  ⟨(some 109), none, .extract (.tmp 100) 0⟩,
  ⟨(some 110), none, .extract (.tmp 100) 1⟩,
  ⟨(some 18), none, .mov (.tmp 109)⟩,
  ⟨(some 13), none, .mov (.tmp 110)⟩] []) (.seq (.reg [
  ⟨(some 111), none, .mov (.tmp 18)⟩,
  ⟨(some 112), none, .mov (.tmp 13)⟩,
  ⟨(some 113), none, .eqNil 1 false (.tmp 112)⟩,
  ⟨(some 10), none, .mov (.tmp 111)⟩,
  ⟨(some 11), none, .mov (.tmp 113)⟩] []) .ret)))))))))), [.tmp 10, .tmp 11]⟩
/-- interpreter/fault.Inside4 -/
def c_fault_Inside4 : MFn := ⟨1, 123, (.seq (.reg [
  ⟨(some 1), none, .box (.tmp 0)⟩,
  ⟨(some 2), none, .alloc (LV.agg [(LV.int .i64 0), (LV.int .i64 0), (LV.int .i64 0), (LV.int .i64 0), (LV.int .i64 0), (LV.bool false), (LV.bool false), (LV.bytes [0, 0, 0, 0]), (LV.bytes [0, 0, 0, 0]), (LV.str []), (LV.str [])])⟩,
  ⟨(some 3), none, .mov (.cst (LV.int .i64 0))⟩,
  ⟨(some 4), none, .mov (.cst LV.nili)⟩] []) (.seq (.seq (.reg [
  ⟨(some 10), none, .load 1 false (.tmp 1)⟩,
  ⟨(some 11), none, .len true (.tmp 10)⟩,
  ⟨(some 12), none, .bin .lss (.tmp 11) (.cst (LV.int .i64 20))⟩] []) (.cond (.tmp 12) (.seq (.reg [
  ⟨(some 13), none, .load 17 true (.tmp 2)⟩,
  ⟨(some 14), none, .call id_fault_fault [(.cst (LV.int .i64 7))]⟩,
  ⟨none, none, .store 17 true (.tmp 2) (.tmp 13)⟩,
  ⟨(some 3), none, .mov (.cst (LV.int .i64 0))⟩,
  ⟨(some 4), none, .mov (.tmp 14)⟩] []) .ret) .skip)) (.seq (.reg [
  ⟨(some 15), none, .load 1 false (.tmp 1)⟩,
  ⟨(some 16), none, .idxStr (.tmp 15) (.cst (LV.int .i64 0))⟩,
  ⟨(some 17), none, .bin .and (.tmp 16) (.cst (LV.int .u8 15))⟩,
  ⟨(some 18), none, .conv .i64 (.tmp 17)⟩,
  ⟨(some 19), none, .bin .mul (.tmp 18) (.cst (LV.int .i64 4))⟩,
  ⟨(some 5), none, .mov (.tmp 19)⟩] []) (.seq (.block 0 (.seq (.reg [
  ⟨(some 21), none, .load 1 false (.tmp 1)⟩,
  ⟨(some 22), none, .idxStr (.tmp 21) (.cst (LV.int .i64 0))⟩,
  ⟨(some 23), none, .bin .shr (.tmp 22) (.cst (LV.int .u64 4))⟩,
  ⟨(some 24), none, .bin .neq (.tmp 23) (.cst (LV.int .u8 4))⟩,
  ⟨(some 25), none, .mov (.tmp 24)⟩,
  ⟨(some 26), (some (25, false)), .mov (.tmp 5)⟩,
  ⟨(some 27), (some (25, false)), .bin .lss (.tmp 26) (.cst (LV.int .i64 20))⟩,
  ⟨(some 28), none, .pick (.tmp 25) (.cst (LV.bool true)) (.tmp 27)⟩,
  ⟨(some 20), none, .mov (.tmp 28)⟩] []) (.cond (.tmp 20) (.seq (.reg [
  ⟨(some 29), none, .load 17 true (.tmp 2)⟩,
  ⟨(some 30), none, .call id_fault_fault [(.cst (LV.int .i64 8))]⟩,
  ⟨none, none, .store 17 true (.tmp 2) (.tmp 29)⟩,
  ⟨(some 3), none, .mov (.cst (LV.int .i64 0))⟩,
  ⟨(some 4), none, .mov (.tmp 30)⟩] []) .ret) (.seq (.reg [
  ⟨(some 32), none, .load 1 false (.tmp 1)⟩,
  ⟨(some 33), none, .len true (.tmp 32)⟩,
  ⟨(some 34), none, .mov (.tmp 5)⟩,
  ⟨(some 35), none, .bin .lss (.tmp 33) (.tmp 34)⟩,
  ⟨(some 31), none, .mov (.tmp 35)⟩] []) (.cond (.tmp 31) (.seq (.reg [
  ⟨(some 36), none, .load 17 true (.tmp 2)⟩,
  ⟨(some 37), none, .call id_fault_fault [(.cst (LV.int .i64 7))]⟩,
  ⟨none, none, .store 17 true (.tmp 2) (.tmp 36)⟩,
  ⟨(some 3), none, .mov (.cst (LV.int .i64 0))⟩,
  ⟨(some 4), none, .mov (.tmp 37)⟩] []) .ret) (.seq (.reg [
  ⟨(some 39), none, .load 1 false (.tmp 1)⟩,
  ⟨(some 40), none, .mov (.tmp 5)⟩,
  ⟨(some 41), none, .slc 0 (.tmp 39) none (some (.tmp 40))⟩,
  ⟨(some 42), none, .bsl (LV.str []) 1 [(0, (.tmp 41))]⟩,
  ⟨(some 43), none, .call id_sum_Right [(.tmp 42)]⟩,
  ⟨(some 44), none, .un .not (.tmp 43)⟩,
  ⟨(some 38), none, .mov (.tmp 44)⟩] []) (.cond (.tmp 38) (.seq (.reg [
  ⟨(some 45), none, .load 17 true (.tmp 2)⟩,
  ⟨(some 46), none, .call id_fault_fault [(.cst (LV.int .i64 9))]⟩,
  ⟨none, none, .store 17 true (.tmp 2) (.tmp 45)⟩,
  ⟨(some 3), none, .mov (.cst (LV.int .i64 0))⟩,
  ⟨(some 4), none, .mov (.tmp 46)⟩] []) .ret) .skip))))))) (.seq (.reg [
  ⟨(some 47), none, .mkFunc id_fault_Inside4_1 [(.tmp 1)]⟩,
  ⟨(some 6), none, .mov (.tmp 47)⟩] []) (.seq (.reg [
  ⟨(some 48), none, .mov (.tmp 6)⟩,
  ⟨(some 49), none, .callv (.tmp 48) [(.cst (LV.int .i64 2))]⟩,
  ⟨(some 50), none, .mov (.tmp 6)⟩,
  ⟨(some 51), none, .callv (.tmp 50) [(.cst (LV.int .i64 6))]⟩,
  ⟨(some 7), none, .mov (.tmp 49)⟩,
  ⟨(some 8), none, .mov (.tmp 51)⟩] []) (.seq (.seq (.reg [
  ⟨(some 52), none, .mov (.tmp 7)⟩,
  ⟨(some 53), none, .mov (.tmp 5)⟩,
  ⟨(some 54), none, .bin .lss (.tmp 52) (.tmp 53)⟩,
  ⟨(some 55), none, .mov (.tmp 54)⟩,
  ⟨(some 56), (some (55, false)), .mov (.tmp 8)⟩,
  ⟨(some 57), (some (55, false)), .bin .and (.tmp 56) (.cst (LV.int .i64 32768))⟩,
  ⟨(some 58), (some (55, false)), .bin .neq (.tmp 57) (.cst (LV.int .i64 0))⟩,
  ⟨(some 59), none, .pick (.tmp 55) (.cst (LV.bool true)) (.tmp 58)⟩,
  ⟨(some 60), none, .mov (.tmp 59)⟩,
  ⟨(some 61), (some (60, false)), .mov (.tmp 8)⟩,
  ⟨(some 62), (some (60, false)), .bin .and (.tmp 61) (.cst (LV.int .i64 8191))⟩,
  ⟨(some 63), (some (60, false)), .bin .mul (.tmp 62) (.cst (LV.int .i64 8))⟩,
  ⟨(some 64), (some (60, false)), .mov (.tmp 7)⟩,
  ⟨(some 65), (some (60, false)), .bin .add (.tmp 63) (.tmp 64)⟩,
  ⟨(some 66), (some (60, false)), .bin .gtr (.tmp 65) (.cst (LV.int .i64 65535))⟩,
  ⟨(some 67), none, .pick (.tmp 60) (.cst (LV.bool true)) (.tmp 66)⟩] []) (.cond (.tmp 67) (.seq (.reg [
  ⟨(some 68), none, .load 17 true (.tmp 2)⟩,
  ⟨(some 69), none, .call id_fault_fault [(.cst (LV.int .i64 8))]⟩,
  ⟨none, none, .store 17 true (.tmp 2) (.tmp 68)⟩,
  ⟨(some 3), none, .mov (.cst (LV.int .i64 0))⟩,
  ⟨(some 4), none, .mov (.tmp 69)⟩] []) .ret) .skip)) (.seq (.reg [
  ⟨(some 70), none, .load 1 false (.tmp 1)⟩,
  ⟨(some 71), none, .mov (.tmp 5)⟩,
  ⟨(some 72), none, .load 1 false (.tmp 1)⟩,
  ⟨(some 73), none, .len true (.tmp 72)⟩,
  ⟨(some 74), none, .mov (.tmp 7)⟩,
  ⟨(some 75), none, .minmax false (.tmp 73) [(.tmp 74)]⟩,
  ⟨(some 76), none, .slc 0 (.tmp 70) (some (.tmp 71)) (some (.tmp 75))⟩,
  ⟨(some 9), none, .mov (.tmp 76)⟩] []) (.seq (.seq (.reg [
  ⟨(some 77), none, .mov (.tmp 9)⟩,
  ⟨(some 78), none, .mov (.tmp 7)⟩,
  ⟨(some 79), none, .mov (.tmp 5)⟩,
  ⟨(some 80), none, .bin .sub (.tmp 78) (.tmp 79)⟩,
  ⟨(some 81), none, .call id_fault_short [(.tmp 77), (.tmp 80)]⟩] []) (.cond (.tmp 81) (.seq (.reg [
  ⟨(some 82), none, .load 17 true (.tmp 2)⟩,
  ⟨(some 83), none, .call id_fault_fault [(.cst (LV.int .i64 7))]⟩,
  ⟨none, none, .store 17 true (.tmp 2) (.tmp 82)⟩,
  ⟨(some 3), none, .mov (.cst (LV.int .i64 0))⟩,
  ⟨(some 4), none, .mov (.tmp 83)⟩] []) .ret) .skip)) (.seq (.reg [
  ⟨(some 84), none, .load 1 false (.tmp 1)⟩,
  ⟨(some 85), none, .idxStr (.tmp 84) (.cst (LV.int .i64 1))⟩,
  ⟨(some 86), none, .conv .i64 (.tmp 85)⟩,
  ⟨(some 87), none, .mov (.tmp 6)⟩,
  ⟨(some 88), none, .callv (.tmp 87) [(.cst (LV.int .i64 4))]⟩,
  ⟨(some 89), none, .load 1 false (.tmp 1)⟩,
  ⟨(some 90), none, .idxStr (.tmp 89) (.cst (LV.int .i64 8))⟩,
  ⟨(some 91), none, .conv .i64 (.tmp 90)⟩,
  ⟨(some 92), none, .load 1 false (.tmp 1)⟩,
  ⟨(some 93), none, .idxStr (.tmp 92) (.cst (LV.int .i64 9))⟩,
  ⟨(some 94), none, .conv .i64 (.tmp 93)⟩,
  ⟨(some 95), none, .mov (.tmp 8)⟩,
  ⟨(some 96), none, .bin .and (.tmp 95) (.cst (LV.int .i64 8191))⟩,
  ⟨(some 97), none, .bin .mul (.tmp 96) (.cst (LV.int .i64 8))⟩,
  ⟨(some 98), none, .mov (.tmp 8)⟩,
  ⟨(some 99), none, .bin .and (.tmp 98) (.cst (LV.int .i64 16384))⟩,
  ⟨(some 100), none, .bin .neq (.tmp 99) (.cst (LV.int .i64 0))⟩,
  ⟨(some 101), none, .mov (.tmp 8)⟩,
  ⟨(some 102), none, .bin .and (.tmp 101) (.cst (LV.int .i64 8192))⟩,
  ⟨(some 103), none, .bin .neq (.tmp 102) (.cst (LV.int .i64 0))⟩,
  ⟨(some 104), none, .load 1 false (.tmp 1)⟩,
  ⟨(some 105), none, .mov (.tmp 5)⟩,
  ⟨(some 106), none, .slc 0 (.tmp 104) (some (.cst (LV.int .i64 20))) (some (.tmp 105))⟩,
  ⟨(some 107), none, .mov (.tmp 9)⟩,
  ⟨(some 108), none, .build (LV.agg [(LV.int .i64 0), (LV.int .i64 0), (LV.int .i64 0), (LV.int .i64 0), (LV.int .i64 0), (LV.bool false), (LV.bool false), (LV.bytes [0, 0, 0, 0]), (LV.bytes [0, 0, 0, 0]), (LV.str []), (LV.str [])]) [(0, (.tmp 86)), (1, (.tmp 88)), (2, (.tmp 91)), (3, (.tmp 94)), (4, (.tmp 97)), (5, (.tmp 100)), (6, (.tmp 103)), (9, (.tmp 106)), (10, (.tmp 107))]⟩,
  ⟨none, none, .store 17 true (.tmp 2) (.tmp 108)⟩] []) (.seq (.reg [
  ⟨(some 109), none, .fieldAddr 7 7 (.tmp 2)⟩,
  ⟨(some 110), none, .slcArr 4 (.tmp 109) none none⟩,
  ⟨(some 111), none, .load 1 false (.tmp 1)⟩,
  ⟨(some 112), none, .slc 0 (.tmp 111) (some (.cst (LV.int .i64 12))) none⟩,
  ⟨(some 113), none, .copy (.tmp 110) (.tmp 112)⟩] []) (.seq (.reg [
  ⟨(some 114), none, .fieldAddr 8 11 (.tmp 2)⟩,
  ⟨(some 115), none, .slcArr 4 (.tmp 114) none none⟩,
  ⟨(some 116), none, .load 1 false (.tmp 1)⟩,
  ⟨(some 117), none, .slc 0 (.tmp 116) (some (.cst (LV.int .i64 16))) none⟩,
  ⟨(some 118), none, .copy (.tmp 115) (.tmp 117)⟩] []) (.seq (.reg [
  ⟨(some 119), none, .load 17 true (.tmp 2)⟩,
  ⟨(some 120), none, .mov (.tmp 7)⟩,
  ⟨(some 121), none, .mov (.tmp 5)⟩,
  ⟨(some 122), none, .bin .sub (.tmp 120) (.tmp 121)⟩,
  ⟨none, none, .store 17 true (.tmp 2) (.tmp 119)⟩,
  ⟨(some 3), none, .mov (.tmp 122)⟩,
  ⟨(some 4), none, .mov (.cst LV.nili)⟩] []) .ret))))))))))))), [.cell 2 17 true, .tmp 3, .tmp 4]⟩
/-- interpreter/interpreterlaw15.awake -/
def c_interpreterlaw15_awake : MFn := ⟨0, 108, (.seq (.reg [
  ⟨(some 0), none, .mov (.cst (LV.bool false))⟩] []) (.seq (.reg [
  ⟨(some 13), none, .call id_interpreterlaw15_gram [(.cst (LV.int .i64 600))]⟩,
  ⟨(some 14), none, .call id_interpreterref03_Bytes [(.tmp 13)]⟩,
  ⟨(some 12), none, .mov (.tmp 14)⟩,
  ⟨(some 15), none, .extract (.tmp 12) 0⟩,
  ⟨(some 16), none, .extract (.tmp 12) 1⟩,
  ⟨(some 1), none, .mov (.tmp 15)⟩,
  ⟨(some 2), none, .mov (.tmp 16)⟩] []) (.seq (.reg [
  ⟨(some 18), none, .build (LV.agg [(LV.int .i64 0), (LV.int .i64 0), (LV.int .u32 0), (LV.str [])]) [(0, (.cst (LV.int .i64 11)))]⟩,
  ⟨(some 19), none, .mov (.tmp 1)⟩,
  ⟨(some 20), none, .build (LV.bytes [0, 0, 0, 0]) [(0, (.cst (LV.int .u8 192))), (1, (.cst (LV.int .u8 0))), (2, (.cst (LV.int .u8 2))), (3, (.cst (LV.int .u8 9)))]⟩,
  ⟨(some 21), none, .call id_fault_Own4 [(.tmp 18), (.tmp 19), (.tmp 20), (.cst (LV.int .i64 5)), (.cst (LV.int .i64 1500))]⟩,
  ⟨(some 17), none, .mov (.tmp 21)⟩,
  ⟨(some 22), none, .extract (.tmp 17) 0⟩,
  ⟨(some 23), none, .extract (.tmp 17) 1⟩,
  ⟨(some 3), none, .mov (.tmp 22)⟩,
  ⟨(some 4), none, .mov (.tmp 23)⟩] []) (.seq (.reg [
  ⟨(some 25), none, .mov (.tmp 3)⟩,
  ⟨(some 26), none, .call id_interpreterref03_Parse [(.tmp 25)]⟩,
  ⟨(some 24), none, .mov (.tmp 26)⟩,
  ⟨(some 27), none, .extract (.tmp 24) 0⟩,
  ⟨(some 28), none, .extract (.tmp 24) 1⟩,
  ⟨(some 5), none, .alloc (LV.agg [(LV.int .i64 0), (LV.int .i64 0), (LV.int .i64 0), (LV.int .i64 0), (LV.int .i64 0), (LV.bool false), (LV.bool false), (LV.bytes [0, 0, 0, 0]), (LV.bytes [0, 0, 0, 0]), (LV.str []), (LV.str [])])⟩,
  ⟨none, none, .store 17 true (.tmp 5) (.tmp 27)⟩,
  ⟨(some 6), none, .mov (.tmp 28)⟩] []) (.seq (.seq (.reg [
  ⟨(some 29), none, .mov (.tmp 4)⟩,
  ⟨(some 30), none, .un .not (.tmp 29)⟩,
  ⟨(some 31), none, .mov (.tmp 30)⟩,
  ⟨(some 32), (some (31, false)), .mov (.tmp 6)⟩,
  ⟨(some 33), (some (31, false)), .bin .neq (.tmp 32) (.cst (LV.int .i64 0))⟩,
  ⟨(some 34), none, .pick (.tmp 31) (.cst (LV.bool true)) (.tmp 33)⟩,
  ⟨(some 35), none, .mov (.tmp 34)⟩,
  ⟨(some 36), (some (35, false)), .mov (.tmp 3)⟩,
  ⟨(some 37), (some (35, false)), .len true (.tmp 36)⟩,
  ⟨(some 38), (some (35, false)), .bin .neq (.tmp 37) (.cst (LV.int .i64 576))⟩,
  ⟨(some 39), none, .pick (.tmp 35) (.cst (LV.bool true)) (.tmp 38)⟩,
  ⟨(some 40), none, .mov (.tmp 39)⟩,
  ⟨(some 41), (some (40, false)), .fieldAddr 8 11 (.tmp 5)⟩,
  ⟨(some 42), (some (40, false)), .load 4 true (.tmp 41)⟩,
  ⟨(some 43), (some (40, false)), .call id_interpreterlaw15_gram [(.cst (LV.int .i64 0))]⟩,
  ⟨(some 44), (some (40, false)), .field 7 7 4 true (.tmp 43)⟩,
  ⟨(some 45), (some (40, false)), .eqS (Sh.bytes 4) true (.tmp 42) (.tmp 44)⟩,
  ⟨(some 46), none, .pick (.tmp 40) (.cst (LV.bool true)) (.tmp 45)⟩,
  ⟨(some 47), none, .mov (.tmp 46)⟩,
  ⟨(some 48), (some (47, false)), .fieldAddr 3 3 (.tmp 5)⟩,
  ⟨(some 49), (some (47, false)), .load 1 false (.tmp 48)⟩,
  ⟨(some 50), (some (47, false)), .bin .neq (.tmp 49) (.cst (LV.int .i64 1))⟩,
  ⟨(some 51), none, .pick (.tmp 47) (.cst (LV.bool true)) (.tmp 50)⟩,
  ⟨(some 52), none, .mov (.tmp 51)⟩,
  ⟨(some 53), (some (52, false)), .fieldAddr 10 16 (.tmp 5)⟩,
  ⟨(some 54), (some (52, false)), .load 1 false (.tmp 53)⟩,
  ⟨(some 55), (some (52, false)), .len true (.tmp 54)⟩,
  ⟨(some 56), (some (52, false)), .bin .lss (.tmp 55) (.cst (LV.int .i64 8))⟩,
  ⟨(some 57), none, .pick (.tmp 52) (.cst (LV.bool true)) (.tmp 56)⟩,
  ⟨(some 58), none, .mov (.tmp 57)⟩,
  ⟨(some 59), (some (58, false)), .fieldAddr 10 16 (.tmp 5)⟩,
  ⟨(some 60), (some (58, false)), .load 1 false (.tmp 59)⟩,
  ⟨(some 61), (some (58, false)), .slc 0 (.tmp 60) (some (.cst (LV.int .i64 8))) none⟩,
  ⟨(some 62), (some (58, false)), .mov (.tmp 1)⟩,
  ⟨(some 63), (some (58, false)), .slc 0 (.tmp 62) none (some (.cst (LV.int .i64 548)))⟩,
  ⟨(some 64), (some (58, false)), .bin .neq (.tmp 61) (.tmp 63)⟩,
  ⟨(some 65), none, .pick (.tmp 58) (.cst (LV.bool true)) (.tmp 64)⟩] []) (.cond (.tmp 65) (.seq (.reg [
  ⟨(some 0), none, .mov (.cst (LV.bool false))⟩] []) .ret) .skip)) (.seq (.reg [
  ⟨(some 67), none, .fieldAddr 10 16 (.tmp 5)⟩,
  ⟨(some 68), none, .load 1 false (.tmp 67)⟩,
  ⟨(some 69), none, .slc 0 (.tmp 68) (some (.cst (LV.int .i64 8))) none⟩,
  ⟨(some 70), none, .call id_fault_Inside4 [(.tmp 69)]⟩,
  ⟨(some 66), none, .mov (.tmp 70)⟩,
  ⟨(some 71), none, .extract (.tmp 66) 0⟩,
  ⟨(some 72), none, .extract (.tmp 66) 1⟩,
  ⟨(some 73), none, .extract (.tmp 66) 2⟩,
  ⟨(some 7), none, .alloc (LV.agg [(LV.int .i64 0), (LV.int .i64 0), (LV.int .i64 0), (LV.int .i64 0), (LV.int .i64 0), (LV.bool false), (LV.bool false), (LV.bytes [0, 0, 0, 0]), (LV.bytes [0, 0, 0, 0]), (LV.str []), (LV.str [])])⟩,
  ⟨none, none, .store 17 true (.tmp 7) (.tmp 71)⟩,
  ⟨(some 8), none, .mov (.tmp 72)⟩,
  ⟨(some 9), none, .mov (.tmp 73)⟩] []) (.seq (.reg [
  ⟨(some 75), none, .load 17 true (.tmp 7)⟩,
  ⟨(some 76), none, .mov (.tmp 8)⟩,
  ⟨(some 77), none, .build (LV.agg [(LV.bytes [0, 0, 0, 0, 0, 0, 0, 0, 0, 0, 0, 0, 0, 0, 0, 0]), (LV.int .i64 0)]) [(1, (.cst (LV.int .i64 1)))]⟩,
  ⟨(some 78), none, .build (LV.agg [(LV.bytes [0, 0, 0, 0, 0, 0, 0, 0, 0, 0, 0, 0, 0, 0, 0, 0]), (LV.int .i64 0)]) [(1, (.cst (LV.int .i64 2)))]⟩,
  ⟨(some 79), none, .call id_fault_Quote6 [(.tmp 75), (.tmp 76), (.tmp 77), (.tmp 78)]⟩,
  ⟨(some 74), none, .mov (.tmp 79)⟩,
  ⟨(some 80), none, .extract (.tmp 74) 0⟩,
  ⟨(some 81), none, .extract (.tmp 74) 1⟩,
  ⟨(some 10), none, .mov (.tmp 80)⟩,
  ⟨(some 11), none, .mov (.tmp 81)⟩] []) (.seq (.reg [
  ⟨(some 82), none, .mov (.tmp 9)⟩,
  ⟨(some 83), none, .eqNil 1 false (.tmp 82)⟩,
  ⟨(some 84), none, .mov (.tmp 83)⟩,
  ⟨(some 85), (some (84, true)), .mov (.tmp 8)⟩,
  ⟨(some 86), (some (84, true)), .bin .eql (.tmp 85) (.cst (LV.int .i64 600))⟩,
  ⟨(some 87), none, .pick (.tmp 84) (.tmp 86) (.cst (LV.bool false))⟩,
  ⟨(some 88), none, .mov (.tmp 87)⟩,
  ⟨(some 89), (some (88, true)), .fieldAddr 10 16 (.tmp 7)⟩,
  ⟨(some 90), (some (88, true)), .load 1 false (.tmp 89)⟩,
  ⟨(some 91), (some (88, true)), .len true (.tmp 90)⟩,
  ⟨(some 92), (some (88, true)), .bin .eql (.tmp 91) (.cst (LV.int .i64 528))⟩,
  ⟨(some 93), none, .pick (.tmp 88) (.tmp 92) (.cst (LV.bool false))⟩,
  ⟨(some 94), none, .mov (.tmp 93)⟩,
  ⟨(some 95), (some (94, true)), .mov (.tmp 11)⟩,
  ⟨(some 96), (some (94, true)), .eqNil 1 false (.tmp 95)⟩,
  ⟨(some 97), none, .pick (.tmp 94) (.tmp 96) (.cst (LV.bool false))⟩,
  ⟨(some 98), none, .mov (.tmp 97)⟩,
  ⟨(some 99), (some (98, true)), .mov (.tmp 10)⟩,
  ⟨(some 100), (some (98, true)), .len true (.tmp 99)⟩,
  ⟨(some 101), (some (98, true)), .bin .eql (.tmp 100) (.cst (LV.int .i64 568))⟩,
  ⟨(some 102), none, .pick (.tmp 98) (.tmp 101) (.cst (LV.bool false))⟩,
  ⟨(some 103), none, .mov (.tmp 102)⟩,
  ⟨(some 104), (some (103, true)), .mov (.tmp 10)⟩,
  ⟨(some 105), (some (103, true)), .slc 0 (.tmp 104) (some (.cst (LV.int .i64 40))) (some (.cst (LV.int .i64 44)))⟩,
  ⟨(some 106), (some (103, true)), .bin .eql (.tmp 105) (.cst (LV.str [0, 1, 0, 2]))⟩,
  ⟨(some 107), none, .pick (.tmp 103) (.tmp 106) (.cst (LV.bool false))⟩,
  ⟨(some 0), none, .mov (.tmp 107)⟩] []) .ret)))))))), [.tmp 0]⟩
/-- interpreter/interpreterlaw15.same -/
def c_interpreterlaw15_same : MFn := ⟨2, 36, (.seq (.reg [
  ⟨(some 4), none, .mov (.cst (LV.bool false))⟩] []) (.seq (.seq (.reg [
  ⟨(some 7), none, .mov (.tmp 1)⟩,
  ⟨(some 8), none, .bin .eql (.tmp 7) (.cst (LV.int .i64 0))⟩] []) (.cond (.tmp 8) (.seq (.reg [
  ⟨(some 9), none, .mov (.tmp 0)⟩,
  ⟨(some 10), none, .eqNil 1 false (.tmp 9)⟩,
  ⟨(some 4), none, .mov (.tmp 10)⟩] []) .ret) .skip)) (.seq (.reg [
  ⟨(some 12), none, .mov (.tmp 0)⟩,
  ⟨(some 13), none, .assert ty_ptr_num_Fault true LV.nilp (.tmp 12)⟩,
  ⟨(some 11), none, .mov (.tmp 13)⟩,
  ⟨(some 14), none, .extract (.tmp 11) 0⟩,
  ⟨(some 15), none, .extract (.tmp 11) 1⟩,
  ⟨(some 5), none, .mov (.tmp 14)⟩,
  ⟨(some 6), none, .mov (.tmp 15)⟩] []) (.seq (.reg [
  ⟨(some 16), none, .mov (.tmp 6)⟩,
  ⟨(some 17), none, .mov (.tmp 16)⟩,
  ⟨(some 18), (some (17, true)), .mov (.tmp 5)⟩,
  ⟨(some 19), (some (17, true)), .eqNil 0 true (.tmp 18)⟩,
  ⟨(some 20), none, .pick (.tmp 17) (.tmp 19) (.cst (LV.bool false))⟩,
  ⟨(some 21), none, .mov (.tmp 20)⟩,
  ⟨(some 22), (some (21, true)), .mov (.tmp 5)⟩,
  ⟨(some 23), (some (21, true)), .nilCheck (.tmp 22)⟩,
  ⟨(some 24), (some (21, true)), .fieldAddr 0 0 (.tmp 23)⟩,
  ⟨(some 25), (some (21, true)), .load 1 false (.tmp 24)⟩,
  ⟨(some 26), (some (21, true)), .mov (.tmp 1)⟩,
  ⟨(some 27), (some (21, true)), .bin .eql (.tmp 25) (.tmp 26)⟩,
  ⟨(some 28), none, .pick (.tmp 21) (.tmp 27) (.cst (LV.bool false))⟩,
  ⟨(some 29), none, .mov (.tmp 28)⟩,
  ⟨(some 30), (some (29, true)), .mov (.tmp 5)⟩,
  ⟨(some 31), (some (29, true)), .nilCheck (.tmp 30)⟩,
  ⟨(some 32), (some (29, true)), .fieldAddr 1 1 (.tmp 31)⟩,
  ⟨(some 33), (some (29, true)), .load 1 false (.tmp 32)⟩,
  ⟨(some 34), (some (29, true)), .bin .eql (.tmp 33) (.cst (LV.int .i64 0))⟩,
  ⟨(some 35), none, .pick (.tmp 29) (.tmp 34) (.cst (LV.bool false))⟩,
  ⟨(some 4), none, .mov (.tmp 35)⟩] []) .ret)))), [.tmp 4]⟩
/-- interpreter/fault.Quote6 -/
def c_fault_Quote6 : MFn := ⟨4, 131, (.seq (.reg [
  ⟨(some 4), none, .box (.tmp 0)⟩,
  ⟨(some 6), none, .box (.tmp 2)⟩,
  ⟨(some 7), none, .box (.tmp 3)⟩,
  ⟨(some 8), none, .mov (.cst (LV.str []))⟩,
  ⟨(some 9), none, .mov (.cst LV.nili)⟩] []) (.seq (.reg [
  ⟨(some 18), none, .fieldAddr 3 3 (.tmp 4)⟩,
  ⟨(some 19), none, .load 1 false (.tmp 18)⟩,
  ⟨(some 20), none, .call id_head46_Proto [(.tmp 19)]⟩,
  ⟨(some 17), none, .mov (.tmp 20)⟩,
  ⟨(some 21), none, .extract (.tmp 17) 0⟩,
  ⟨(some 22), none, .extract (.tmp 17) 1⟩,
  ⟨(some 10), none, .mov (.tmp 21)⟩,
  ⟨(some 11), none, .mov (.tmp 22)⟩] []) (.seq (.reg [
  ⟨(some 23), none, .fieldAddr 6 6 (.tmp 4)⟩,
  ⟨(some 24), none, .load 1 false (.tmp 23)⟩,
  ⟨(some 25), none, .mov (.tmp 24)⟩,
  ⟨(some 26), (some (25, false)), .fieldAddr 4 4 (.tmp 4)⟩,
  ⟨(some 27), (some (25, false)), .load 1 false (.tmp 26)⟩,
  ⟨(some 28), (some (25, false)), .bin .neq (.tmp 27) (.cst (LV.int .i64 0))⟩,
  ⟨(some 29), none, .pick (.tmp 25) (.cst (LV.bool true)) (.tmp 28)⟩,
  ⟨(some 12), none, .mov (.tmp 29)⟩] []) (.seq (.reg [
  ⟨(some 30), none, .mov (.tmp 1)⟩,
  ⟨(some 13), none, .mov (.tmp 30)⟩] []) (.seq (.seq (.reg [
  ⟨(some 31), none, .mov (.tmp 12)⟩] []) (.cond (.tmp 31) (.reg [
  ⟨(some 32), none, .mov (.tmp 13)⟩,
  ⟨(some 33), none, .bin .add (.tmp 32) (.cst (LV.int .i64 8))⟩,
  ⟨(some 13), none, .mov (.tmp 33)⟩] []) .skip)) (.seq (.block 0 (.seq (.reg [
  ⟨(some 35), none, .fieldAddr 0 0 (.tmp 4)⟩,
  ⟨(some 36), none, .load 1 false (.tmp 35)⟩,
  ⟨(some 37), none, .fieldAddr 2 2 (.tmp 4)⟩,
  ⟨(some 38), none, .load 1 false (.tmp 37)⟩,
  ⟨(some 39), none, .bsl (LV.int .i64 0) 2 [(0, (.tmp 36)), (1, (.tmp 38))]⟩,
  ⟨(some 40), none, .call id_fault_within [(.cst (LV.int .i64 255)), (.tmp 39)]⟩,
  ⟨(some 41), none, .un .not (.tmp 40)⟩,
  ⟨(some 42), none, .mov (.tmp 41)⟩,
  ⟨(some 43), (some (42, false)), .fieldAddr 1 1 (.tmp 4)⟩,
  ⟨(some 44), (some (42, false)), .load 1 false (.tmp 43)⟩,
  ⟨(some 45), (some (42, false)), .fieldAddr 1 16 (.tmp 6)⟩,
  ⟨(some 46), (some (42, false)), .load 1 false (.tmp 45)⟩,
  ⟨(some 47), (some (42, false)), .fieldAddr 1 16 (.tmp 7)⟩,
  ⟨(some 48), (some (42, false)), .load 1 false (.tmp 47)⟩,
  ⟨(some 49), (some (42, false)), .bsl (LV.int .i64 0) 3 [(0, (.tmp 44)), (1, (.tmp 46)), (2, (.tmp 48))]⟩,
  ⟨(some 50), (some (42, false)), .call id_fault_within [(.cst (LV.int .i64 65535)), (.tmp 49)]⟩,
  ⟨(some 51), (some (42, false)), .un .not (.tmp 50)⟩,
  ⟨(some 52), none, .pick (.tmp 42) (.cst (LV.bool true)) (.tmp 51)⟩,
  ⟨(some 53), none, .mov (.tmp 52)⟩,
  ⟨(some 54), (some (53, false)), .fieldAddr 4 4 (.tmp 4)⟩,
  ⟨(some 55), (some (53, false)), .load 1 false (.tmp 54)⟩,
  ⟨(some 56), (some (53, false)), .bsl (LV.int .i64 0) 1 [(0, (.tmp 55))]⟩,
  ⟨(some 57), (some (53, false)), .call id_fault_within [(.cst (LV.int .i64 65528)), (.tmp 56)]⟩,
  ⟨(some 58), (some (53, false)), .un .not (.tmp 57)⟩,
  ⟨(some 59), none, .pick (.tmp 53) (.cst (LV.bool true)) (.tmp 58)⟩,
  ⟨(some 60), none, .mov (.tmp 59)⟩,
  ⟨(some 61), (some (60, false)), .fieldAddr 4 4 (.tmp 4)⟩,
  ⟨(some 62), (some (60, false)), .load 1 false (.tmp 61)⟩,
  ⟨(some 63), (some (60, false)), .bin .rem (.tmp 62) (.cst (LV.int .i64 8))⟩,
  ⟨(some 64), (some (60, false)), .bin .neq (.tmp 63) (.cst (LV.int .i64 0))⟩,
  ⟨(some 65), none, .pick (.tmp 60) (.cst (LV.bool true)) (.tmp 64)⟩,
  ⟨(some 66), none, .mov (.tmp 65)⟩,
  ⟨(some 67), (some (66, false)), .mov (.tmp 1)⟩,
  ⟨(some 68), (some (66, false)), .fieldAddr 10 16 (.tmp 4)⟩,
  ⟨(some 69), (some (66, false)), .load 1 false (.tmp 68)⟩,
  ⟨(some 70), (some (66, false)), .len true (.tmp 69)⟩,
  ⟨(some 71), (some (66, false)), .bin .lss (.tmp 67) (.tmp 70)⟩,
  ⟨(some 72), none, .pick (.tmp 66) (.cst (LV.bool true)) (.tmp 71)⟩,
  ⟨(some 34), none, .mov (.tmp 72)⟩] []) (.cond (.tmp 34) (.seq (.reg [
  ⟨(some 73), none, .call id_fault_fault [(.cst (LV.int .i64 13))]⟩,
  ⟨(some 8), none, .mov (.cst (LV.str []))⟩,
  ⟨(some 9), none, .mov (.tmp 73)⟩] []) .ret) (.seq (.reg [
  ⟨(some 75), none, .mov (.tmp 11)⟩,
  ⟨(some 76), none, .un .not (.tmp 75)⟩,
  ⟨(some 74), none, .mov (.tmp 76)⟩] []) (.cond (.tmp 74) (.seq (.reg [
  ⟨(some 77), none, .call id_fault_fault [(.cst (LV.int .i64 10))]⟩,
  ⟨(some 8), none, .mov (.cst (LV.str []))⟩,
  ⟨(some 9), none, .mov (.tmp 77)⟩] []) .ret) (.seq (.reg [
  ⟨(some 79), none, .mov (.tmp 13)⟩,
  ⟨(some 80), none, .bin .gtr (.tmp 79) (.cst (LV.int .i64 65535))⟩,
  ⟨(some 78), none, .mov (.tmp 80)⟩] []) (.cond (.tmp 78) (.seq (.reg [
  ⟨(some 81), none, .call id_fault_fault [(.cst (LV.int .i64 3))]⟩,
  ⟨(some 8), none, .mov (.cst (LV.str []))⟩,
  ⟨(some 9), none, .mov (.tmp 81)⟩] []) .ret) .skip))))))) (.seq (.reg [
  ⟨(some 82), none, .mov (.tmp 10)⟩,
  ⟨(some 14), none, .mov (.tmp 82)⟩,
  ⟨(some 15), none, .mov (.cst (LV.str []))⟩] []) (.seq (.seq (.reg [
  ⟨(some 83), none, .mov (.tmp 12)⟩] []) (.cond (.tmp 83) (.seq (.reg [
  ⟨(some 84), none, .fieldAddr 4 4 (.tmp 4)⟩,
  ⟨(some 85), none, .load 1 false (.tmp 84)⟩,
  ⟨(some 16), none, .mov (.tmp 85)⟩] []) (.seq (.seq (.reg [
  ⟨(some 86), none, .fieldAddr 6 6 (.tmp 4)⟩,
  ⟨(some 87), none, .load 1 false (.tmp 86)⟩] []) (.cond (.tmp 87) (.reg [
  ⟨(some 88), none, .mov (.tmp 16)⟩,
  ⟨(some 89), none, .bin .add (.tmp 88) (.cst (LV.int .i64 1))⟩,
  ⟨(some 16), none, .mov (.tmp 89)⟩] []) .skip)) (.reg [
  ⟨(some 90), none, .mov (.tmp 10)⟩,
  ⟨(some 91), none, .call id_fault_big [(.tmp 90), (.cst (LV.int .i64 1))]⟩,
  ⟨(some 92), none, .bin .add (.tmp 91) (.cst (LV.str [0]))⟩,
  ⟨(some 93), none, .mov (.tmp 16)⟩,
  ⟨(some 94), none, .call id_fault_big [(.tmp 93), (.cst (LV.int .i64 2))]⟩,
  ⟨(some 95), none, .bin .add (.tmp 92) (.tmp 94)⟩,
  ⟨(some 96), none, .fieldAddr 1 1 (.tmp 4)⟩,
  ⟨(some 97), none, .load 1 false (.tmp 96)⟩,
  ⟨(some 98), none, .call id_fault_big [(.tmp 97), (.cst (LV.int .i64 4))]⟩,
  ⟨(some 99), none, .bin .add (.tmp 95) (.tmp 98)⟩,
  ⟨(some 14), none, .mov (.cst (LV.int .i64 44))⟩,
  ⟨(some 15), none, .mov (.tmp 99)⟩] []))) .skip)) (.seq (.reg [
  ⟨(some 100), none, .fieldAddr 0 0 (.tmp 4)⟩,
  ⟨(some 101), none, .load 1 false (.tmp 100)⟩,
  ⟨(some 102), none, .bin .shl (.tmp 101) (.cst (LV.int .u64 20))⟩,
  ⟨(some 103), none, .bin .or (.cst (LV.int .i64 1610612736)) (.tmp 102)⟩,
  ⟨(some 104), none, .call id_fault_big [(.tmp 103), (.cst (LV.int .i64 4))]⟩,
  ⟨(some 105), none, .mov (.tmp 13)⟩,
  ⟨(some 106), none, .call id_fault_big [(.tmp 105), (.cst (LV.int .i64 2))]⟩,
  ⟨(some 107), none, .bin .add (.tmp 104) (.tmp 106)⟩,
  ⟨(some 108), none, .mov (.tmp 14)⟩,
  ⟨(some 109), none, .call id_fault_big [(.tmp 108), (.cst (LV.int .i64 1))]⟩,
  ⟨(some 110), none, .bin .add (.tmp 107) (.tmp 109)⟩,
  ⟨(some 111), none, .fieldAddr 2 2 (.tmp 4)⟩,
  ⟨(some 112), none, .load 1 false (.tmp 111)⟩,
  ⟨(some 113), none, .call id_fault_big [(.tmp 112), (.cst (LV.int .i64 1))]⟩,
  ⟨(some 114), none, .bin .add (.tmp 110) (.tmp 113)⟩,
  ⟨(some 115), none, .fieldAddr 0 0 (.tmp 6)⟩,
  ⟨(some 116), none, .slcArr 16 (.tmp 115) none none⟩,
  ⟨(some 117), none, .b2s (.tmp 116)⟩,
  ⟨(some 118), none, .bin .add (.tmp 114) (.tmp 117)⟩,
  ⟨(some 119), none, .fieldAddr 0 0 (.tmp 7)⟩,
  ⟨(some 120), none, .slcArr 16 (.tmp 119) none none⟩,
  ⟨(some 121), none, .b2s (.tmp 120)⟩,
  ⟨(some 122), none, .bin .add (.tmp 118) (.tmp 121)⟩,
  ⟨(some 123), none, .mov (.tmp 15)⟩,
  ⟨(some 124), none, .bin .add (.tmp 122) (.tmp 123)⟩,
  ⟨(some 125), none, .load 17 true (.tmp 4)⟩,
  ⟨(some 126), none, .mov (.tmp 1)⟩,
  ⟨(some 127), none, .load 17 true (.tmp 6)⟩,
  ⟨(some 128), none, .load 17 true (.tmp 7)⟩,
  ⟨(some 129), none, .call id_fault_turn6 [(.tmp 125), (.tmp 126), (.tmp 127), (.tmp 128)]⟩,
  ⟨(some 130), none, .bin .add (.tmp 124) (.tmp 129)⟩,
  ⟨(some 8), none, .mov (.tmp 130)⟩,
  ⟨(some 9), none, .mov (.cst LV.nili)⟩] []) .ret))))))))), [.tmp 8, .tmp 9]⟩
/-- interpreter/ip4.Parse -/
def c_ip4_Parse : MFn := ⟨1, 114, (.seq (.reg [
  ⟨(some 1), none, .box (.tmp 0)⟩,
  ⟨(some 2), none, .alloc (LV.agg [(LV.int .i64 0), (LV.int .i64 0), (LV.int .i64 0), (LV.int .i64 0), (LV.int .i64 0), (LV.bool false), (LV.bool false), (LV.bytes [0, 0, 0, 0]), (LV.bytes [0, 0, 0, 0]), (LV.str []), (LV.str [])])⟩,
  ⟨(some 3), none, .mov (.cst LV.nili)⟩] []) (.seq (.reg [
  ⟨(some 4), none, .alloc (LV.agg [(LV.int .i64 0), (LV.int .i64 0), (LV.int .i64 0), (LV.int .i64 0), (LV.int .i64 0), (LV.bool false), (LV.bool false), (LV.bytes [0, 0, 0, 0]), (LV.bytes [0, 0, 0, 0]), (LV.str []), (LV.str [])])⟩] []) (.seq (.seq (.reg [
  ⟨(some 10), none, .load 1 false (.tmp 1)⟩,
  ⟨(some 11), none, .len true (.tmp 10)⟩,
  ⟨(some 12), none, .bin .lss (.tmp 11) (.cst (LV.int .i64 20))⟩] []) (.cond (.tmp 12) (.seq (.reg [
  ⟨(some 13), none, .load 17 true (.tmp 4)⟩,
  ⟨(some 14), none, .call id_ip4_fault [(.cst (LV.int .i64 7))]⟩,
  ⟨none, none, .store 17 true (.tmp 2) (.tmp 13)⟩,
  ⟨(some 3), none, .mov (.tmp 14)⟩] []) .ret) .skip)) (.seq (.reg [
  ⟨(some 15), none, .load 1 false (.tmp 1)⟩,
  ⟨(some 16), none, .idxStr (.tmp 15) (.cst (LV.int .i64 0))⟩,
  ⟨(some 17), none, .bin .and (.tmp 16) (.cst (LV.int .u8 15))⟩,
  ⟨(some 18), none, .conv .i64 (.tmp 17)⟩,
  ⟨(some 19), none, .bin .mul (.tmp 18) (.cst (LV.int .i64 4))⟩,
  ⟨(some 5), none, .mov (.tmp 19)⟩] []) (.seq (.block 0 (.seq (.reg [
  ⟨(some 21), none, .load 1 false (.tmp 1)⟩,
  ⟨(some 22), none, .idxStr (.tmp 21) (.cst (LV.int .i64 0))⟩,
  ⟨(some 23), none, .bin .shr (.tmp 22) (.cst (LV.int .u64 4))⟩,
  ⟨(some 24), none, .bin .neq (.tmp 23) (.cst (LV.int .u8 4))⟩,
  ⟨(some 25), none, .mov (.tmp 24)⟩,
  ⟨(some 26), (some (25, false)), .mov (.tmp 5)⟩,
  ⟨(some 27), (some (25, false)), .bin .lss (.tmp 26) (.cst (LV.int .i64 20))⟩,
  ⟨(some 28), none, .pick (.tmp 25) (.cst (LV.bool true)) (.tmp 27)⟩,
  ⟨(some 20), none, .mov (.tmp 28)⟩] []) (.cond (.tmp 20) (.seq (.reg [
  ⟨(some 29), none, .load 17 true (.tmp 4)⟩,
  ⟨(some 30), none, .call id_ip4_fault [(.cst (LV.int .i64 8))]⟩,
  ⟨none, none, .store 17 true (.tmp 2) (.tmp 29)⟩,
  ⟨(some 3), none, .mov (.tmp 30)⟩] []) .ret) (.seq (.reg [
  ⟨(some 32), none, .load 1 false (.tmp 1)⟩,
  ⟨(some 33), none, .len true (.tmp 32)⟩,
  ⟨(some 34), none, .mov (.tmp 5)⟩,
  ⟨(some 35), none, .bin .lss (.tmp 33) (.tmp 34)⟩,
  ⟨(some 31), none, .mov (.tmp 35)⟩] []) (.cond (.tmp 31) (.seq (.reg [
  ⟨(some 36), none, .load 17 true (.tmp 4)⟩,
  ⟨(some 37), none, .call id_ip4_fault [(.cst (LV.int .i64 7))]⟩,
  ⟨none, none, .store 17 true (.tmp 2) (.tmp 36)⟩,
  ⟨(some 3), none, .mov (.tmp 37)⟩] []) .ret) (.seq (.reg [
  ⟨(some 39), none, .load 1 false (.tmp 1)⟩,
  ⟨(some 40), none, .mov (.tmp 5)⟩,
  ⟨(some 41), none, .slc 0 (.tmp 39) none (some (.tmp 40))⟩,
  ⟨(some 42), none, .bsl (LV.str []) 1 [(0, (.tmp 41))]⟩,
  ⟨(some 43), none, .call id_sum_Right [(.tmp 42)]⟩,
  ⟨(some 44), none, .un .not (.tmp 43)⟩,
  ⟨(some 38), none, .mov (.tmp 44)⟩] []) (.cond (.tmp 38) (.seq (.reg [
  ⟨(some 45), none, .load 17 true (.tmp 4)⟩,
  ⟨(some 46), none, .call id_ip4_fault [(.cst (LV.int .i64 9))]⟩,
  ⟨none, none, .store 17 true (.tmp 2) (.tmp 45)⟩,
  ⟨(some 3), none, .mov (.tmp 46)⟩] []) .ret) .skip))))))) (.seq (.reg [
  ⟨(some 47), none, .mkFunc id_ip4_Parse_1 [(.tmp 1)]⟩,
  ⟨(some 6), none, .mov (.tmp 47)⟩] []) (.seq (.reg [
  ⟨(some 48), none, .mov (.tmp 6)⟩,
  ⟨(some 49), none, .callv (.tmp 48) [(.cst (LV.int .i64 2))]⟩,
  ⟨(some 50), none, .mov (.tmp 6)⟩,
  ⟨(some 51), none, .callv (.tmp 50) [(.cst (LV.int .i64 6))]⟩,
  ⟨(some 7), none, .mov (.tmp 49)⟩,
  ⟨(some 8), none, .mov (.tmp 51)⟩] []) (.seq (.block 1 (.seq (.reg [
  ⟨(some 53), none, .mov (.tmp 7)⟩,
  ⟨(some 54), none, .mov (.tmp 5)⟩,
  ⟨(some 55), none, .bin .lss (.tmp 53) (.tmp 54)⟩,
  ⟨(some 52), none, .mov (.tmp 55)⟩] []) (.cond (.tmp 52) (.seq (.reg [
  ⟨(some 56), none, .load 17 true (.tmp 4)⟩,
  ⟨(some 57), none, .call id_ip4_fault [(.cst (LV.int .i64 8))]⟩,
  ⟨none, none, .store 17 true (.tmp 2) (.tmp 56)⟩,
  ⟨(some 3), none, .mov (.tmp 57)⟩] []) .ret) (.seq (.reg [
  ⟨(some 59), none, .load 1 false (.tmp 1)⟩,
  ⟨(some 60), none, .len true (.tmp 59)⟩,
  ⟨(some 61), none, .mov (.tmp 7)⟩,
  ⟨(some 62), none, .bin .lss (.tmp 60) (.tmp 61)⟩,
  ⟨(some 58), none, .mov (.tmp 62)⟩] []) (.cond (.tmp 58) (.seq (.reg [
  ⟨(some 63), none, .load 17 true (.tmp 4)⟩,
  ⟨(some 64), none, .call id_ip4_fault [(.cst (LV.int .i64 7))]⟩,
  ⟨none, none, .store 17 true (.tmp 2) (.tmp 63)⟩,
  ⟨(some 3), none, .mov (.tmp 64)⟩] []) .ret) .skip))))) (.seq (.reg [
  ⟨(some 65), none, .load 1 false (.tmp 1)⟩,
  ⟨(some 66), none, .idxStr (.tmp 65) (.cst (LV.int .i64 1))⟩,
  ⟨(some 67), none, .conv .i64 (.tmp 66)⟩,
  ⟨(some 68), none, .mov (.tmp 6)⟩,
  ⟨(some 69), none, .callv (.tmp 68) [(.cst (LV.int .i64 4))]⟩,
  ⟨(some 70), none, .load 1 false (.tmp 1)⟩,
  ⟨(some 71), none, .idxStr (.tmp 70) (.cst (LV.int .i64 8))⟩,
  ⟨(some 72), none, .conv .i64 (.tmp 71)⟩,
  ⟨(some 73), none, .load 1 false (.tmp 1)⟩,
  ⟨(some 74), none, .idxStr (.tmp 73) (.cst (LV.int .i64 9))⟩,
  ⟨(some 75), none, .conv .i64 (.tmp 74)⟩,
  ⟨(some 76), none, .mov (.tmp 8)⟩,
  ⟨(some 77), none, .bin .and (.tmp 76) (.cst (LV.int .i64 8191))⟩,
  ⟨(some 78), none, .bin .mul (.tmp 77) (.cst (LV.int .i64 8))⟩,
  ⟨(some 79), none, .mov (.tmp 8)⟩,
  ⟨(some 80), none, .bin .and (.tmp 79) (.cst (LV.int .i64 16384))⟩,
  ⟨(some 81), none, .bin .neq (.tmp 80) (.cst (LV.int .i64 0))⟩,
  ⟨(some 82), none, .mov (.tmp 8)⟩,
  ⟨(some 83), none, .bin .and (.tmp 82) (.cst (LV.int .i64 8192))⟩,
  ⟨(some 84), none, .bin .neq (.tmp 83) (.cst (LV.int .i64 0))⟩,
  ⟨(some 85), none, .load 1 false (.tmp 1)⟩,
  ⟨(some 86), none, .mov (.tmp 5)⟩,
  ⟨(some 87), none, .slc 0 (.tmp 85) (some (.cst (LV.int .i64 20))) (some (.tmp 86))⟩,
  ⟨(some 88), none, .load 1 false (.tmp 1)⟩,
  ⟨(some 89), none, .mov (.tmp 5)⟩,
  ⟨(some 90), none, .mov (.tmp 7)⟩,
  ⟨(some 91), none, .slc 0 (.tmp 88) (some (.tmp 89)) (some (.tmp 90))⟩,
  ⟨(some 92), none, .build (LV.agg [(LV.int .i64 0), (LV.int .i64 0), (LV.int .i64 0), (LV.int .i64 0), (LV.int .i64 0), (LV.bool false), (LV.bool false), (LV.bytes [0, 0, 0, 0]), (LV.bytes [0, 0, 0, 0]), (LV.str []), (LV.str [])]) [(0, (.tmp 67)), (1, (.tmp 69)), (2, (.tmp 72)), (3, (.tmp 75)), (4, (.tmp 78)), (5, (.tmp 81)), (6, (.tmp 84)), (9, (.tmp 87)), (10, (.tmp 91))]⟩,
  ⟨(some 9), none, .alloc (LV.agg [(LV.int .i64 0), (LV.int .i64 0), (LV.int .i64 0), (LV.int .i64 0), (LV.int .i64 0), (LV.bool false), (LV.bool false), (LV.bytes [0, 0, 0, 0]), (LV.bytes [0, 0, 0, 0]), (LV.str []), (LV.str [])])⟩,
  ⟨none, none, .store 17 true (.tmp 9) (.tmp 92)⟩] []) (.seq (.reg [
  ⟨(some 93), none, .fieldAddr 7 7 (.tmp 9)⟩,
  ⟨(some 94), none, .slcArr 4 (.tmp 93) none none⟩,
  ⟨(some 95), none, .load 1 false (.tmp 1)⟩,
  ⟨(some 96), none, .slc 0 (.tmp 95) (some (.cst (LV.int .i64 12))) none⟩,
  ⟨(some 97), none, .copy (.tmp 94) (.tmp 96)⟩] []) (.seq (.reg [
  ⟨(some 98), none, .fieldAddr 8 11 (.tmp 9)⟩,
  ⟨(some 99), none, .slcArr 4 (.tmp 98) none none⟩,
  ⟨(some 100), none, .load 1 false (.tmp 1)⟩,
  ⟨(some 101), none, .slc 0 (.tmp 100) (some (.cst (LV.int .i64 16))) none⟩,
  ⟨(some 102), none, .copy (.tmp 99) (.tmp 101)⟩] []) (.seq (.seq (.reg [
  ⟨(some 103), none, .mov (.tmp 8)⟩,
  ⟨(some 104), none, .bin .and (.tmp 103) (.cst (LV.int .i64 32768))⟩,
  ⟨(some 105), none, .bin .neq (.tmp 104) (.cst (LV.int .i64 0))⟩,
  ⟨(some 106), none, .mov (.tmp 105)⟩,
  ⟨(some 107), (some (106, false)), .load 17 true (.tmp 9)⟩,
  ⟨(some 108), (some (106, false)), .call id_ip4_why [(.tmp 107)]⟩,
  ⟨(some 109), (some (106, false)), .bin .neq (.tmp 108) (.cst (LV.int .i64 0))⟩,
  ⟨(some 110), none, .pick (.tmp 106) (.cst (LV.bool true)) (.tmp 109)⟩] []) (.cond (.tmp 110) (.seq (.reg [
  ⟨(some 111), none, .load 17 true (.tmp 4)⟩,
  ⟨(some 112), none, .call id_ip4_fault [(.cst (LV.int .i64 8))]⟩,
  ⟨none, none, .store 17 true (.tmp 2) (.tmp 111)⟩,
  ⟨(some 3), none, .mov (.tmp 112)⟩] []) .ret) .skip)) (.seq (.reg [
  ⟨(some 113), none, .load 17 true (.tmp 9)⟩,
  ⟨none, none, .store 17 true (.tmp 2) (.tmp 113)⟩,
  ⟨(some 3), none, .mov (.cst LV.nili)⟩] []) .ret))))))))))))), [.cell 2 17 true, .tmp 3]⟩
/-- interpreter/sum.Pseudo6 -/
def c_sum_Pseudo6 : MFn := ⟨4, 21, (.seq (.reg [
  ⟨(some 4), none, .box (.tmp 0)⟩,
  ⟨(some 5), none, .box (.tmp 1)⟩,
  ⟨(some 8), none, .mov (.cst (LV.str []))⟩] []) (.seq (.reg [
  ⟨(some 9), none, .slcArr 16 (.tmp 4) none none⟩,
  ⟨(some 10), none, .b2s (.tmp 9)⟩,
  ⟨(some 11), none, .slcArr 16 (.tmp 5) none none⟩,
  ⟨(some 12), none, .b2s (.tmp 11)⟩,
  ⟨(some 13), none, .bin .add (.tmp 10) (.tmp 12)⟩,
  ⟨(some 14), none, .mov (.tmp 3)⟩,
  ⟨(some 15), none, .call id_sum_big [(.tmp 14), (.cst (LV.int .i64 4))]⟩,
  ⟨(some 16), none, .bin .add (.tmp 13) (.tmp 15)⟩,
  ⟨(some 17), none, .bin .add (.tmp 16) (.cst (LV.str [0, 0, 0]))⟩,
  ⟨(some 18), none, .mov (.tmp 2)⟩,
  ⟨(some 19), none, .call id_sum_big [(.tmp 18), (.cst (LV.int .i64 1))]⟩,
  ⟨(some 20), none, .bin .add (.tmp 17) (.tmp 19)⟩,
  ⟨(some 8), none, .mov (.tmp 20)⟩] []) .ret)), [.tmp 8]⟩
/-- interpreter/icmp4.Failure -/
def c_icmp4_Failure : MFn := ⟨1, 11, (.seq (.reg [
  ⟨(some 1), none, .box (.tmp 0)⟩,
  ⟨(some 2), none, .mov (.cst (LV.bool false))⟩] []) (.seq (.seq (.reg [
  ⟨(some 3), none, .fieldAddr 0 0 (.tmp 1)⟩,
  ⟨(some 4), none, .load 1 false (.tmp 3)⟩] []) (.block 0 (.seq (.seq (.reg [
  ⟨(some 6), none, .bin .eql (.tmp 4) (.cst (LV.int .i64 3))⟩,
  ⟨(some 5), none, .mov (.tmp 6)⟩] []) (.cond (.tmp 5) .skip (.seq (.reg [
  ⟨(some 7), none, .bin .eql (.tmp 4) (.cst (LV.int .i64 4))⟩,
  ⟨(some 5), none, .mov (.tmp 7)⟩] []) (.cond (.tmp 5) .skip (.seq (.reg [
  ⟨(some 8), none, .bin .eql (.tmp 4) (.cst (LV.int .i64 5))⟩,
  ⟨(some 5), none, .mov (.tmp 8)⟩] []) (.cond (.tmp 5) .skip (.seq (.reg [
  ⟨(some 9), none, .bin .eql (.tmp 4) (.cst (LV.int .i64 11))⟩,
  ⟨(some 5), none, .mov (.tmp 9)⟩] []) (.cond (.tmp 5) .skip (.reg [
  ⟨(some 10), none, .bin .eql (.tmp 4) (.cst (LV.int .i64 12))⟩,
  ⟨(some 5), none, .mov (.tmp 10)⟩] []))))))))) (.cond (.tmp 5) (.seq (.reg [
  ⟨(some 2), none, .mov (.cst (LV.bool true))⟩] []) .ret) .skip)))) (.seq (.reg [
  ⟨(some 2), none, .mov (.cst (LV.bool false))⟩] []) .ret))), [.tmp 2]⟩
/-- interpreter/interpreterref03.Why -/
def c_interpreterref03_Why : MFn := ⟨1, 75, (.seq (.reg [
  ⟨(some 1), none, .box (.tmp 0)⟩,
  ⟨(some 2), none, .mov (.cst (LV.int .i64 0))⟩] []) (.seq (.seq (.reg [
  ⟨(some 3), none, .fieldAddr 0 0 (.tmp 1)⟩,
  ⟨(some 4), none, .load 1 false (.tmp 3)⟩,
  ⟨(some 5), none, .call id_interpreterref03_within [(.tmp 4), (.cst (LV.int .i64 255))]⟩,
  ⟨(some 6), none, .un .not (.tmp 5)⟩,
  ⟨(some 7), none, .mov (.tmp 6)⟩,
  ⟨(some 8), (some (7, false)), .fieldAddr 2 2 (.tmp 1)⟩,
  ⟨(some 9), (some (7, false)), .load 1 false (.tmp 8)⟩,
  ⟨(some 10), (some (7, false)), .call id_interpreterref03_within [(.tmp 9), (.cst (LV.int .i64 255))]⟩,
  ⟨(some 11), (some (7, false)), .un .not (.tmp 10)⟩,
  ⟨(some 12), none, .pick (.tmp 7) (.cst (LV.bool true)) (.tmp 11)⟩,
  ⟨(some 13), none, .mov (.tmp 12)⟩,
  ⟨(some 14), (some (13, false)), .fieldAddr 3 3 (.tmp 1)⟩,
  ⟨(some 15), (some (13, false)), .load 1 false (.tmp 14)⟩,
  ⟨(some 16), (some (13, false)), .call id_interpreterref03_within [(.tmp 15), (.cst (LV.int .i64 255))]⟩,
  ⟨(some 17), (some (13, false)), .un .not (.tmp 16)⟩,
  ⟨(some 18), none, .pick (.tmp 13) (.cst (LV.bool true)) (.tmp 17)⟩,
  ⟨(some 19), none, .mov (.tmp 18)⟩,
  ⟨(some 20), (some (19, false)), .fieldAddr 1 1 (.tmp 1)⟩,
  ⟨(some 21), (some (19, false)), .load 1 false (.tmp 20)⟩,
  ⟨(some 22), (some (19, false)), .call id_interpreterref03_within [(.tmp 21), (.cst (LV.int .i64 65535))]⟩,
  ⟨(some 23), (some (19, false)), .un .not (.tmp 22)⟩,
  ⟨(some 24), none, .pick (.tmp 19) (.cst (LV.bool true)) (.tmp 23)⟩,
  ⟨(some 25), none, .mov (.tmp 24)⟩,
  ⟨(some 26), (some (25, false)), .fieldAddr 4 4 (.tmp 1)⟩,
  ⟨(some 27), (some (25, false)), .load 1 false (.tmp 26)⟩,
  ⟨(some 28), (some (25, false)), .call id_interpreterref03_within [(.tmp 27), (.cst (LV.int .i64 65528))]⟩,
  ⟨(some 29), (some (25, false)), .un .not (.tmp 28)⟩,
  ⟨(some 30), none, .pick (.tmp 25) (.cst (LV.bool true)) (.tmp 29)⟩,
  ⟨(some 31), none, .mov (.tmp 30)⟩,
  ⟨(some 32), (some (31, false)), .fieldAddr 4 4 (.tmp 1)⟩,
  ⟨(some 33), (some (31, false)), .load 1 false (.tmp 32)⟩,
  ⟨(some 34), (some (31, false)), .bin .rem (.tmp 33) (.cst (LV.int .i64 8))⟩,
  ⟨(some 35), (some (31, false)), .bin .neq (.tmp 34) (.cst (LV.int .i64 0))⟩,
  ⟨(some 36), none, .pick (.tmp 31) (.cst (LV.bool true)) (.tmp 35)⟩] []) (.cond (.tmp 36) (.seq (.reg [
  ⟨(some 2), none, .mov (.cst (LV.int .i64 13))⟩] []) .ret) .skip)) (.seq (.seq (.reg [
  ⟨(some 37), none, .fieldAddr 9 15 (.tmp 1)⟩,
  ⟨(some 38), none, .load 1 false (.tmp 37)⟩,
  ⟨(some 39), none, .len true (.tmp 38)⟩,
  ⟨(some 40), none, .bin .gtr (.tmp 39) (.cst (LV.int .i64 40))⟩,
  ⟨(some 41), none, .mov (.tmp 40)⟩,
  ⟨(some 42), (some (41, false)), .fieldAddr 9 15 (.tmp 1)⟩,
  ⟨(some 43), (some (41, false)), .load 1 false (.tmp 42)⟩,
  ⟨(some 44), (some (41, false)), .len true (.tmp 43)⟩,
  ⟨(some 45), (some (41, false)), .bin .rem (.tmp 44) (.cst (LV.int .i64 4))⟩,
  ⟨(some 46), (some (41, false)), .bin .neq (.tmp 45) (.cst (LV.int .i64 0))⟩,
  ⟨(some 47), none, .pick (.tmp 41) (.cst (LV.bool true)) (.tmp 46)⟩] []) (.cond (.tmp 47) (.seq (.reg [
  ⟨(some 2), none, .mov (.cst (LV.int .i64 8))⟩] []) .ret) .skip)) (.seq (.seq (.reg [
  ⟨(some 48), none, .fieldAddr 6 6 (.tmp 1)⟩,
  ⟨(some 49), none, .load 1 false (.tmp 48)⟩,
  ⟨(some 50), none, .mov (.tmp 49)⟩,
  ⟨(some 51), (some (50, true)), .fieldAddr 10 16 (.tmp 1)⟩,
  ⟨(some 52), (some (50, true)), .load 1 false (.tmp 51)⟩,
  ⟨(some 53), (some (50, true)), .len true (.tmp 52)⟩,
  ⟨(some 54), (some (50, true)), .bin .eql (.tmp 53) (.cst (LV.int .i64 0))⟩,
  ⟨(some 55), (some (50, true)), .mov (.tmp 54)⟩,
  ⟨(some 56), (some (55, false)), .fieldAddr 10 16 (.tmp 1)⟩,
  ⟨(some 57), (some (55, false)), .load 1 false (.tmp 56)⟩,
  ⟨(some 58), (some (55, false)), .len true (.tmp 57)⟩,
  ⟨(some 59), (some (55, false)), .bin .rem (.tmp 58) (.cst (LV.int .i64 8))⟩,
  ⟨(some 60), (some (55, false)), .bin .neq (.tmp 59) (.cst (LV.int .i64 0))⟩,
  ⟨(some 61), (some (50, true)), .pick (.tmp 55) (.cst (LV.bool true)) (.tmp 60)⟩,
  ⟨(some 62), none, .pick (.tmp 50) (.tmp 61) (.cst (LV.bool false))⟩] []) (.cond (.tmp 62) (.seq (.reg [
  ⟨(some 2), none, .mov (.cst (LV.int .i64 8))⟩] []) .ret) .skip)) (.seq (.seq (.reg [
  ⟨(some 63), none, .fieldAddr 9 15 (.tmp 1)⟩,
  ⟨(some 64), none, .load 1 false (.tmp 63)⟩,
  ⟨(some 65), none, .len true (.tmp 64)⟩,
  ⟨(some 66), none, .bin .add (.cst (LV.int .i64 20)) (.tmp 65)⟩,
  ⟨(some 67), none, .fieldAddr 4 4 (.tmp 1)⟩,
  ⟨(some 68), none, .load 1 false (.tmp 67)⟩,
  ⟨(some 69), none, .bin .add (.tmp 66) (.tmp 68)⟩,
  ⟨(some 70), none, .fieldAddr 10 16 (.tmp 1)⟩,
  ⟨(some 71), none, .load 1 false (.tmp 70)⟩,
  ⟨(some 72), none, .len true (.tmp 71)⟩,
  ⟨(some 73), none, .bin .add (.tmp 69) (.tmp 72)⟩,
  ⟨(some 74), none, .bin .gtr (.tmp 73) (.cst (LV.int .i64 65535))⟩] []) (.cond (.tmp 74) (.seq (.reg [
  ⟨(some 2), none, .mov (.cst (LV.int .i64 3))⟩] []) .ret) .skip)) (.seq (.reg [
  ⟨(some 2), none, .mov (.cst (LV.int .i64 0))⟩] []) .ret)))))), [.tmp 2]⟩
/-- interpreter/interpreterref02.Of -/
def c_interpreterref02_Of : MFn := ⟨1, 7, (.seq (.reg [
  ⟨(some 2), none, .mov (.cst (LV.int .i64 0))⟩] []) (.seq (.reg [
  ⟨(some 3), none, .mov (.tmp 0)⟩,
  ⟨(some 4), none, .call id_interpreterref02_Words [(.tmp 3)]⟩,
  ⟨(some 5), none, .call id_interpreterref02_Total [(.tmp 4)]⟩,
  ⟨(some 6), none, .bin .sub (.cst (LV.int .i64 65535)) (.tmp 5)⟩,
  ⟨(some 2), none, .mov (.tmp 6)⟩] []) .ret)), [.tmp 2]⟩
/-- interpreter/class.Martian4 -/
def c_class_Martian4 : MFn := ⟨1, 26, (.seq (.reg [
  ⟨(some 1), none, .box (.tmp 0)⟩,
  ⟨(some 2), none, .mov (.cst (LV.bool false))⟩] []) (.seq (.reg [
  ⟨(some 3), none, .idxAddr (some 4) 1 (.tmp 1) (.cst (LV.int .i64 0))⟩,
  ⟨(some 4), none, .load 1 false (.tmp 3)⟩,
  ⟨(some 5), none, .bin .eql (.tmp 4) (.cst (LV.int .u8 0))⟩,
  ⟨(some 6), none, .mov (.tmp 5)⟩,
  ⟨(some 7), (some (6, false)), .idxAddr (some 4) 1 (.tmp 1) (.cst (LV.int .i64 0))⟩,
  ⟨(some 8), (some (6, false)), .load 1 false (.tmp 7)⟩,
  ⟨(some 9), (some (6, false)), .bin .eql (.tmp 8) (.cst (LV.int .u8 127))⟩,
  ⟨(some 10), none, .pick (.tmp 6) (.cst (LV.bool true)) (.tmp 9)⟩,
  ⟨(some 11), none, .mov (.tmp 10)⟩,
  ⟨(some 12), (some (11, false)), .idxAddr (some 4) 1 (.tmp 1) (.cst (LV.int .i64 0))⟩,
  ⟨(some 13), (some (11, false)), .load 1 false (.tmp 12)⟩,
  ⟨(some 14), (some (11, false)), .bin .geq (.tmp 13) (.cst (LV.int .u8 224))⟩,
  ⟨(some 15), none, .pick (.tmp 11) (.cst (LV.bool true)) (.tmp 14)⟩,
  ⟨(some 16), none, .mov (.tmp 15)⟩,
  ⟨(some 17), (some (16, false)), .idxAddr (some 4) 1 (.tmp 1) (.cst (LV.int .i64 0))⟩,
  ⟨(some 18), (some (16, false)), .load 1 false (.tmp 17)⟩,
  ⟨(some 19), (some (16, false)), .bin .eql (.tmp 18) (.cst (LV.int .u8 169))⟩,
  ⟨(some 20), (some (16, false)), .mov (.tmp 19)⟩,
  ⟨(some 21), (some (20, true)), .idxAddr (some 4) 1 (.tmp 1) (.cst (LV.int .i64 1))⟩,
  ⟨(some 22), (some (20, true)), .load 1 false (.tmp 21)⟩,
  ⟨(some 23), (some (20, true)), .bin .eql (.tmp 22) (.cst (LV.int .u8 254))⟩,
  ⟨(some 24), (some (16, false)), .pick (.tmp 20) (.tmp 23) (.cst (LV.bool false))⟩,
  ⟨(some 25), none, .pick (.tmp 16) (.cst (LV.bool true)) (.tmp 24)⟩,
  ⟨(some 2), none, .mov (.tmp 25)⟩] []) .ret)), [.tmp 2]⟩
/-- interpreter/fault.beginning -/
def c_fault_beginning : MFn := ⟨3, 24, (.seq (.reg [
  ⟨(some 6), none, .mov (.cst (LV.str []))⟩,
  ⟨(some 7), none, .mov (.cst (LV.bool false))⟩] []) (.seq (.reg [
  ⟨(some 9), none, .mov (.tmp 0)⟩,
  ⟨(some 10), none, .len true (.tmp 9)⟩,
  ⟨(some 11), none, .mov (.tmp 2)⟩,
  ⟨(some 12), none, .minmax false (.tmp 10) [(.tmp 11)]⟩,
  ⟨(some 8), none, .mov (.tmp 12)⟩] []) (.seq (.reg [
  ⟨(some 13), none, .mov (.tmp 0)⟩,
  ⟨(some 14), none, .mov (.tmp 8)⟩,
  ⟨(some 15), none, .minmax true (.tmp 14) [(.cst (LV.int .i64 0))]⟩,
  ⟨(some 16), none, .slc 0 (.tmp 13) none (some (.tmp 15))⟩,
  ⟨(some 17), none, .mov (.tmp 8)⟩,
  ⟨(some 18), none, .mov (.tmp 1)⟩,
  ⟨(some 19), none, .bin .add (.tmp 18) (.cst (LV.int .i64 8))⟩,
  ⟨(some 20), none, .mov (.tmp 0)⟩,
  ⟨(some 21), none, .len true (.tmp 20)⟩,
  ⟨(some 22), none, .minmax false (.tmp 19) [(.tmp 21)]⟩,
  ⟨(some 23), none, .bin .geq (.tmp 17) (.tmp 22)⟩,
  ⟨(some 6), none, .mov (.tmp 16)⟩,
  ⟨(some 7), none, .mov (.tmp 23)⟩] []) .ret))), [.tmp 6, .tmp 7]⟩
/-- interpreter/icmp4.Bytes -/
def c_icmp4_Bytes : MFn := ⟨1, 59, (.seq (.reg [
  ⟨(some 1), none, .box (.tmp 0)⟩,
  ⟨(some 2), none, .mov (.cst (LV.str []))⟩,
  ⟨(some 3), none, .mov (.cst LV.nili)⟩] []) (.seq (.reg [
  ⟨(some 10), none, .fieldAddr 0 0 (.tmp 1)⟩,
  ⟨(some 11), none, .load 1 false (.tmp 10)⟩,
  ⟨(some 12), none, .call id_num_Big [(.tmp 11), (.cst (LV.int .i64 1))]⟩,
  ⟨(some 9), none, .mov (.tmp 12)⟩,
  ⟨(some 13), none, .extract (.tmp 9) 0⟩,
  ⟨(some 14), none, .extract (.tmp 9) 1⟩,
  ⟨(some 4), none, .mov (.tmp 13)⟩,
  ⟨(some 5), none, .mov (.tmp 14)⟩] []) (.seq (.seq (.reg [
  ⟨(some 15), none, .mov (.tmp 5)⟩,
  ⟨(some 16), none, .eqNil 1 true (.tmp 15)⟩] []) (.cond (.tmp 16) (.seq (.reg [
  ⟨(some 17), none, .mov (.tmp 5)⟩,
  ⟨(some 2), none, .mov (.cst (LV.str []))⟩,
  ⟨(some 3), none, .mov (.tmp 17)⟩] []) .ret) .skip)) (.seq (.reg [
  ⟨(some 19), none, .fieldAddr 1 1 (.tmp 1)⟩,
  ⟨(some 20), none, .load 1 false (.tmp 19)⟩,
  ⟨(some 21), none, .call id_num_Big [(.tmp 20), (.cst (LV.int .i64 1))]⟩,
  ⟨(some 18), none, .mov (.tmp 21)⟩,
  ⟨(some 22), none, .extract (.tmp 18) 0⟩,
  ⟨(some 23), none, .extract (.tmp 18) 1⟩,
  ⟨(some 6), none, .mov (.tmp 22)⟩,
  ⟨(some 5), none, .mov (.tmp 23)⟩] []) (.seq (.seq (.reg [
  ⟨(some 24), none, .mov (.tmp 5)⟩,
  ⟨(some 25), none, .eqNil 1 true (.tmp 24)⟩] []) (.cond (.tmp 25) (.seq (.reg [
  ⟨(some 26), none, .mov (.tmp 5)⟩,
  ⟨(some 2), none, .mov (.cst (LV.str []))⟩,
  ⟨(some 3), none, .mov (.tmp 26)⟩] []) .ret) .skip)) (.seq (.reg [
  ⟨(some 28), none, .fieldAddr 2 2 (.tmp 1)⟩,
  ⟨(some 29), none, .load 1 false (.tmp 28)⟩,
  ⟨(some 30), none, .conv .i64 (.tmp 29)⟩,
  ⟨(some 31), none, .call id_num_Big [(.tmp 30), (.cst (LV.int .i64 4))]⟩,
  ⟨(some 27), none, .mov (.tmp 31)⟩,
  ⟨(some 32), none, .extract (.tmp 27) 0⟩,
  ⟨(some 33), none, .extract (.tmp 27) 1⟩,
  ⟨(some 7), none, .mov (.tmp 32)⟩,
  ⟨(some 5), none, .mov (.tmp 33)⟩] []) (.seq (.seq (.reg [
  ⟨(some 34), none, .mov (.tmp 5)⟩,
  ⟨(some 35), none, .eqNil 1 true (.tmp 34)⟩] []) (.cond (.tmp 35) (.seq (.reg [
  ⟨(some 36), none, .mov (.tmp 5)⟩,
  ⟨(some 2), none, .mov (.cst (LV.str []))⟩,
  ⟨(some 3), none, .mov (.tmp 36)⟩] []) .ret) .skip)) (.seq (.reg [
  ⟨(some 38), none, .mov (.tmp 4)⟩,
  ⟨(some 39), none, .mov (.tmp 6)⟩,
  ⟨(some 40), none, .mov (.tmp 7)⟩,
  ⟨(some 41), none, .fieldAddr 3 3 (.tmp 1)⟩,
  ⟨(some 42), none, .load 1 false (.tmp 41)⟩,
  ⟨(some 43), none, .bsl (LV.str []) 5 [(0, (.tmp 38)), (1, (.tmp 39)), (2, (.cst (LV.str [0, 0]))), (3, (.tmp 40)), (4, (.tmp 42))]⟩,
  ⟨(some 44), none, .call id_sum_Of [(.tmp 43)]⟩,
  ⟨(some 45), none, .call id_num_Big [(.tmp 44), (.cst (LV.int .i64 2))]⟩,
  ⟨(some 37), none, .mov (.tmp 45)⟩,
  ⟨(some 46), none, .extract (.tmp 37) 0⟩,
  ⟨(some 47), none, .extract (.tmp 37) 1⟩,
  ⟨(some 8), none, .mov (.tmp 46)⟩,
  ⟨(some 5), none, .mov (.tmp 47)⟩] []) (.seq (.reg [
  ⟨(some 48), none, .mov (.tmp 4)⟩,
  ⟨(some 49), none, .mov (.tmp 6)⟩,
  ⟨(some 50), none, .bin .add (.tmp 48) (.tmp 49)⟩,
  ⟨(some 51), none, .mov (.tmp 8)⟩,
  ⟨(some 52), none, .bin .add (.tmp 50) (.tmp 51)⟩,
  ⟨(some 53), none, .mov (.tmp 7)⟩,
  ⟨(some 54), none, .bin .add (.tmp 52) (.tmp 53)⟩,
  ⟨(some 55), none, .fieldAddr 3 3 (.tmp 1)⟩,
  ⟨(some 56), none, .load 1 false (.tmp 55)⟩,
  ⟨(some 57), none, .bin .add (.tmp 54) (.tmp 56)⟩,
  ⟨(some 58), none, .mov (.tmp 5)⟩,
  ⟨(some 2), none, .mov (.tmp 57)⟩,
  ⟨(some 3), none, .mov (.tmp 58)⟩] []) .ret))))))))), [.tmp 2, .tmp 3]⟩
/-- interpreter/ip4.Bytes -/
def c_ip4_Bytes : MFn := ⟨1, 82, (.seq (.reg [
  ⟨(some 1), none, .box (.tmp 0)⟩,
  ⟨(some 2), none, .mov (.cst (LV.str []))⟩,
  ⟨(some 3), none, .mov (.cst LV.nili)⟩] []) (.seq (.seq (.reg [
  ⟨(some 9), none, .load 17 true (.tmp 1)⟩,
  ⟨(some 10), none, .call id_ip4_why [(.tmp 9)]⟩,
  ⟨(some 4), none, .mov (.tmp 10)⟩] []) (.seq (.reg [
  ⟨(some 11), none, .mov (.tmp 4)⟩,
  ⟨(some 12), none, .bin .neq (.tmp 11) (.cst (LV.int .i64 0))⟩] []) (.cond (.tmp 12) (.seq (.reg [
  ⟨(some 13), none, .mov (.tmp 4)⟩,
  ⟨(some 14), none, .call id_ip4_fault [(.tmp 13)]⟩,
  ⟨(some 2), none, .mov (.cst (LV.str []))⟩,
  ⟨(some 3), none, .mov (.tmp 14)⟩] []) .ret) .skip))) (.seq (.reg [
  ⟨(some 15), none, .fieldAddr 4 4 (.tmp 1)⟩,
  ⟨(some 16), none, .load 1 false (.tmp 15)⟩,
  ⟨(some 17), none, .bin .quo (.tmp 16) (.cst (LV.int .i64 8))⟩,
  ⟨(some 5), none, .mov (.tmp 17)⟩] []) (.seq (.seq (.reg [
  ⟨(some 18), none, .fieldAddr 5 5 (.tmp 1)⟩,
  ⟨(some 19), none, .load 1 false (.tmp 18)⟩] []) (.cond (.tmp 19) (.reg [
  ⟨(some 20), none, .mov (.tmp 5)⟩,
  ⟨(some 21), none, .bin .or (.tmp 20) (.cst (LV.int .i64 16384))⟩,
  ⟨(some 5), none, .mov (.tmp 21)⟩] []) .skip)) (.seq (.seq (.reg [
  ⟨(some 22), none, .fieldAddr 6 6 (.tmp 1)⟩,
  ⟨(some 23), none, .load 1 false (.tmp 22)⟩] []) (.cond (.tmp 23) (.reg [
  ⟨(some 24), none, .mov (.tmp 5)⟩,
  ⟨(some 25), none, .bin .or (.tmp 24) (.cst (LV.int .i64 8192))⟩,
  ⟨(some 5), none, .mov (.tmp 25)⟩] []) .skip)) (.seq (.reg [
  ⟨(some 26), none, .fieldAddr 9 15 (.tmp 1)⟩,
  ⟨(some 27), none, .load 1 false (.tmp 26)⟩,
  ⟨(some 28), none, .len true (.tmp 27)⟩,
  ⟨(some 29), none, .bin .add (.cst (LV.int .i64 20)) (.tmp 28)⟩,
  ⟨(some 6), none, .mov (.tmp 29)⟩] []) (.seq (.reg [
  ⟨(some 30), none, .mov (.tmp 6)⟩,
  ⟨(some 31), none, .bin .quo (.tmp 30) (.cst (LV.int .i64 4))⟩,
  ⟨(some 32), none, .bin .add (.cst (LV.int .i64 64)) (.tmp 31)⟩,
  ⟨(some 33), none, .call id_ip4_big [(.tmp 32), (.cst (LV.int .i64 1))]⟩,
  ⟨(some 34), none, .fieldAddr 0 0 (.tmp 1)⟩,
  ⟨(some 35), none, .load 1 false (.tmp 34)⟩,
  ⟨(some 36), none, .call id_ip4_big [(.tmp 35), (.cst (LV.int .i64 1))]⟩,
  ⟨(some 37), none, .bin .add (.tmp 33) (.tmp 36)⟩,
  ⟨(some 38), none, .mov (.tmp 6)⟩,
  ⟨(some 39), none, .fieldAddr 10 16 (.tmp 1)⟩,
  ⟨(some 40), none, .load 1 false (.tmp 39)⟩,
  ⟨(some 41), none, .len true (.tmp 40)⟩,
  ⟨(some 42), none, .bin .add (.tmp 38) (.tmp 41)⟩,
  ⟨(some 43), none, .call id_ip4_big [(.tmp 42), (.cst (LV.int .i64 2))]⟩,
  ⟨(some 44), none, .bin .add (.tmp 37) (.tmp 43)⟩,
  ⟨(some 45), none, .fieldAddr 1 1 (.tmp 1)⟩,
  ⟨(some 46), none, .load 1 false (.tmp 45)⟩,
  ⟨(some 47), none, .call id_ip4_big [(.tmp 46), (.cst (LV.int .i64 2))]⟩,
  ⟨(some 48), none, .bin .add (.tmp 44) (.tmp 47)⟩,
  ⟨(some 49), none, .mov (.tmp 5)⟩,
  ⟨(some 50), none, .call id_ip4_big [(.tmp 49), (.cst (LV.int .i64 2))]⟩,
  ⟨(some 51), none, .bin .add (.tmp 48) (.tmp 50)⟩,
  ⟨(some 52), none, .fieldAddr 2 2 (.tmp 1)⟩,
  ⟨(some 53), none, .load 1 false (.tmp 52)⟩,
  ⟨(some 54), none, .call id_ip4_big [(.tmp 53), (.cst (LV.int .i64 1))]⟩,
  ⟨(some 55), none, .bin .add (.tmp 51) (.tmp 54)⟩,
  ⟨(some 56), none, .fieldAddr 3 3 (.tmp 1)⟩,
  ⟨(some 57), none, .load 1 false (.tmp 56)⟩,
  ⟨(some 58), none, .call id_ip4_big [(.tmp 57), (.cst (LV.int .i64 1))]⟩,
  ⟨(some 59), none, .bin .add (.tmp 55) (.tmp 58)⟩,
  ⟨(some 7), none, .mov (.tmp 59)⟩] []) (.seq (.reg [
  ⟨(some 60), none, .fieldAddr 7 7 (.tmp 1)⟩,
  ⟨(some 61), none, .slcArr 4 (.tmp 60) none none⟩,
  ⟨(some 62), none, .b2s (.tmp 61)⟩,
  ⟨(some 63), none, .fieldAddr 8 11 (.tmp 1)⟩,
  ⟨(some 64), none, .slcArr 4 (.tmp 63) none none⟩,
  ⟨(some 65), none, .b2s (.tmp 64)⟩,
  ⟨(some 66), none, .bin .add (.tmp 62) (.tmp 65)⟩,
  ⟨(some 67), none, .fieldAddr 9 15 (.tmp 1)⟩,
  ⟨(some 68), none, .load 1 false (.tmp 67)⟩,
  ⟨(some 69), none, .bin .add (.tmp 66) (.tmp 68)⟩,
  ⟨(some 8), none, .mov (.tmp 69)⟩] []) (.seq (.reg [
  ⟨(some 70), none, .mov (.tmp 7)⟩,
  ⟨(some 71), none, .mov (.tmp 7)⟩,
  ⟨(some 72), none, .mov (.tmp 8)⟩,
  ⟨(some 73), none, .bsl (LV.str []) 2 [(0, (.tmp 71)), (1, (.tmp 72))]⟩,
  ⟨(some 74), none, .call id_sum_Of [(.tmp 73)]⟩,
  ⟨(some 75), none, .call id_ip4_big [(.tmp 74), (.cst (LV.int .i64 2))]⟩,
  ⟨(some 76), none, .bin .add (.tmp 70) (.tmp 75)⟩,
  ⟨(some 77), none, .mov (.tmp 8)⟩,
  ⟨(some 78), none, .bin .add (.tmp 76) (.tmp 77)⟩,
  ⟨(some 79), none, .fieldAddr 10 16 (.tmp 1)⟩,
  ⟨(some 80), none, .load 1 false (.tmp 79)⟩,
  ⟨(some 81), none, .bin .add (.tmp 78) (.tmp 80)⟩,
  ⟨(some 2), none, .mov (.tmp 81)⟩,
  ⟨(some 3), none, .mov (.cst LV.nili)⟩] []) .ret))))))))), [.tmp 2, .tmp 3]⟩
/-- interpreter/fault.fault -/
def c_fault_fault : MFn := ⟨1, 7, (.seq (.reg [
  ⟨(some 2), none, .mov (.cst LV.nili)⟩] []) (.seq (.reg [
  ⟨(some 3), none, .mov (.tmp 0)⟩,
  ⟨(some 4), none, .build (LV.agg [(LV.int .i64 0), (LV.int .i64 0)]) [(0, (.tmp 3))]⟩,
  ⟨(some 5), none, .box (.tmp 4)⟩,
  ⟨(some 6), none, .mkIface ty_ptr_num_Fault (.tmp 5)⟩,
  ⟨(some 2), none, .mov (.tmp 6)⟩] []) .ret)), [.tmp 2]⟩
/-- interpreter/sum.Right -/
def c_sum_Right : MFn := ⟨1, 6, (.seq (.reg [
  ⟨(some 2), none, .mov (.cst (LV.bool false))⟩] []) (.seq (.reg [
  ⟨(some 3), none, .mov (.tmp 0)⟩,
  ⟨(some 4), none, .call id_sum_Of [(.tmp 3)]⟩,
  ⟨(some 5), none, .bin .eql (.tmp 4) (.cst (LV.int .i64 0))⟩,
  ⟨(some 2), none, .mov (.tmp 5)⟩] []) .ret)), [.tmp 2]⟩
/-- interpreter/fault.Inside4$1 -/
def c_fault_Inside4_1 : MFn := ⟨2, 15, (.seq (.reg [
  ⟨(some 3), none, .mov (.cst (LV.int .i64 0))⟩] []) (.seq (.reg [
  ⟨(some 4), none, .load 1 false (.tmp 1)⟩,
  ⟨(some 5), none, .mov (.tmp 0)⟩,
  ⟨(some 6), none, .idxStr (.tmp 4) (.tmp 5)⟩,
  ⟨(some 7), none, .conv .i64 (.tmp 6)⟩,
  ⟨(some 8), none, .bin .shl (.tmp 7) (.cst (LV.int .u64 8))⟩,
  ⟨(some 9), none, .load 1 false (.tmp 1)⟩,
  ⟨(some 10), none, .mov (.tmp 0)⟩,
  ⟨(some 11), none, .bin .add (.tmp 10) (.cst (LV.int .i64 1))⟩,
  ⟨(some 12), none, .idxStr (.tmp 9) (.tmp 11)⟩,
  ⟨(some 13), none, .conv .i64 (.tmp 12)⟩,
  ⟨(some 14), none, .bin .or (.tmp 8) (.tmp 13)⟩,
  ⟨(some 3), none, .mov (.tmp 14)⟩] []) .ret)), [.tmp 3]⟩
/-- interpreter/fault.short -/
def c_fault_short : MFn := ⟨2, 10, (.seq (.reg [
  ⟨(some 4), none, .mov (.cst (LV.bool false))⟩] []) (.seq (.reg [
  ⟨(some 5), none, .mov (.tmp 0)⟩,
  ⟨(some 6), none, .len true (.tmp 5)⟩,
  ⟨(some 7), none, .mov (.tmp 1)⟩,
  ⟨(some 8), none, .minmax false (.cst (LV.int .i64 8)) [(.tmp 7)]⟩,
  ⟨(some 9), none, .bin .lss (.tmp 6) (.tmp 8)⟩,
  ⟨(some 4), none, .mov (.tmp 9)⟩] []) .ret)), [.tmp 4]⟩
/-- interpreter/interpreterref03.Parse -/
def c_interpreterref03_Parse : MFn := ⟨1, 108, (.seq (.reg [
  ⟨(some 2), none, .alloc (LV.agg [(LV.int .i64 0), (LV.int .i64 0), (LV.int .i64 0), (LV.int .i64 0), (LV.int .i64 0), (LV.bool false), (LV.bool false), (LV.bytes [0, 0, 0, 0]), (LV.bytes [0, 0, 0, 0]), (LV.str []), (LV.str [])])⟩,
  ⟨(some 3), none, .mov (.cst (LV.int .i64 0))⟩] []) (.seq (.reg [
  ⟨(some 10), none, .build (LV.agg [(LV.int .i64 0), (LV.int .i64 0), (LV.int .i64 0), (LV.int .i64 0), (LV.int .i64 0), (LV.bool false), (LV.bool false), (LV.bytes [0, 0, 0, 0]), (LV.bytes [0, 0, 0, 0]), (LV.str []), (LV.str [])]) []⟩,
  ⟨(some 4), none, .alloc (LV.agg [(LV.int .i64 0), (LV.int .i64 0), (LV.int .i64 0), (LV.int .i64 0), (LV.int .i64 0), (LV.bool false), (LV.bool false), (LV.bytes [0, 0, 0, 0]), (LV.bytes [0, 0, 0, 0]), (LV.str []), (LV.str [])])⟩,
  ⟨none, none, .store 17 true (.tmp 4) (.tmp 10)⟩] []) (.seq (.seq (.reg [
  ⟨(some 11), none, .mov (.tmp 0)⟩,
  ⟨(some 12), none, .len true (.tmp 11)⟩,
  ⟨(some 13), none, .bin .lss (.tmp 12) (.cst (LV.int .i64 20))⟩] []) (.cond (.tmp 13) (.seq (.reg [
  ⟨(some 14), none, .load 17 true (.tmp 4)⟩,
  ⟨none, none, .store 17 true (.tmp 2) (.tmp 14)⟩,
  ⟨(some 3), none, .mov (.cst (LV.int .i64 7))⟩] []) .ret) .skip)) (.seq (.reg [
  ⟨(some 15), none, .mov (.tmp 0)⟩,
  ⟨(some 16), none, .idxStr (.tmp 15) (.cst (LV.int .i64 0))⟩,
  ⟨(some 17), none, .conv .i64 (.tmp 16)⟩,
  ⟨(some 18), none, .bin .sub (.tmp 17) (.cst (LV.int .i64 64))⟩,
  ⟨(some 19), none, .bin .mul (.cst (LV.int .i64 4)) (.tmp 18)⟩,
  ⟨(some 5), none, .mov (.tmp 19)⟩] []) (.seq (.seq (.reg [
  ⟨(some 20), none, .mov (.tmp 5)⟩,
  ⟨(some 21), none, .bin .lss (.tmp 20) (.cst (LV.int .i64 20))⟩,
  ⟨(some 22), none, .mov (.tmp 21)⟩,
  ⟨(some 23), (some (22, false)), .mov (.tmp 5)⟩,
  ⟨(some 24), (some (22, false)), .bin .gtr (.tmp 23) (.cst (LV.int .i64 60))⟩,
  ⟨(some 25), none, .pick (.tmp 22) (.cst (LV.bool true)) (.tmp 24)⟩] []) (.cond (.tmp 25) (.seq (.reg [
  ⟨(some 26), none, .load 17 true (.tmp 4)⟩,
  ⟨none, none, .store 17 true (.tmp 2) (.tmp 26)⟩,
  ⟨(some 3), none, .mov (.cst (LV.int .i64 8))⟩] []) .ret) .skip)) (.seq (.seq (.reg [
  ⟨(some 27), none, .mov (.tmp 0)⟩,
  ⟨(some 28), none, .len true (.tmp 27)⟩,
  ⟨(some 29), none, .mov (.tmp 5)⟩,
  ⟨(some 30), none, .bin .lss (.tmp 28) (.tmp 29)⟩] []) (.cond (.tmp 30) (.seq (.reg [
  ⟨(some 31), none, .load 17 true (.tmp 4)⟩,
  ⟨none, none, .store 17 true (.tmp 2) (.tmp 31)⟩,
  ⟨(some 3), none, .mov (.cst (LV.int .i64 7))⟩] []) .ret) .skip)) (.seq (.seq (.reg [
  ⟨(some 32), none, .mov (.tmp 0)⟩,
  ⟨(some 33), none, .mov (.tmp 5)⟩,
  ⟨(some 34), none, .slc 0 (.tmp 32) none (some (.tmp 33))⟩,
  ⟨(some 35), none, .call id_interpreterref02_Of [(.tmp 34)]⟩,
  ⟨(some 36), none, .bin .neq (.tmp 35) (.cst (LV.int .i64 0))⟩] []) (.cond (.tmp 36) (.seq (.reg [
  ⟨(some 37), none, .load 17 true (.tmp 4)⟩,
  ⟨none, none, .store 17 true (.tmp 2) (.tmp 37)⟩,
  ⟨(some 3), none, .mov (.cst (LV.int .i64 9))⟩] []) .ret) .skip)) (.seq (.reg [
  ⟨(some 38), none, .mov (.tmp 0)⟩,
  ⟨(some 39), none, .call id_interpreterref03_number [(.tmp 38), (.cst (LV.int .i64 2))]⟩,
  ⟨(some 6), none, .mov (.tmp 39)⟩] []) (.seq (.seq (.reg [
  ⟨(some 40), none, .mov (.tmp 6)⟩,
  ⟨(some 41), none, .mov (.tmp 5)⟩,
  ⟨(some 42), none, .bin .lss (.tmp 40) (.tmp 41)⟩] []) (.cond (.tmp 42) (.seq (.reg [
  ⟨(some 43), none, .load 17 true (.tmp 4)⟩,
  ⟨none, none, .store 17 true (.tmp 2) (.tmp 43)⟩,
  ⟨(some 3), none, .mov (.cst (LV.int .i64 8))⟩] []) .ret) .skip)) (.seq (.seq (.reg [
  ⟨(some 44), none, .mov (.tmp 0)⟩,
  ⟨(some 45), none, .len true (.tmp 44)⟩,
  ⟨(some 46), none, .mov (.tmp 6)⟩,
  ⟨(some 47), none, .bin .lss (.tmp 45) (.tmp 46)⟩] []) (.cond (.tmp 47) (.seq (.reg [
  ⟨(some 48), none, .load 17 true (.tmp 4)⟩,
  ⟨none, none, .store 17 true (.tmp 2) (.tmp 48)⟩,
  ⟨(some 3), none, .mov (.cst (LV.int .i64 7))⟩] []) .ret) .skip)) (.seq (.reg [
  ⟨(some 49), none, .mov (.tmp 0)⟩,
  ⟨(some 50), none, .call id_interpreterref03_number [(.tmp 49), (.cst (LV.int .i64 6))]⟩,
  ⟨(some 7), none, .mov (.tmp 50)⟩] []) (.seq (.reg [
  ⟨(some 51), none, .mov (.tmp 0)⟩,
  ⟨(some 52), none, .idxStr (.tmp 51) (.cst (LV.int .i64 1))⟩,
  ⟨(some 53), none, .conv .i64 (.tmp 52)⟩,
  ⟨(some 54), none, .mov (.tmp 0)⟩,
  ⟨(some 55), none, .call id_interpreterref03_number [(.tmp 54), (.cst (LV.int .i64 4))]⟩,
  ⟨(some 56), none, .mov (.tmp 0)⟩,
  ⟨(some 57), none, .idxStr (.tmp 56) (.cst (LV.int .i64 8))⟩,
  ⟨(some 58), none, .conv .i64 (.tmp 57)⟩,
  ⟨(some 59), none, .mov (.tmp 0)⟩,
  ⟨(some 60), none, .idxStr (.tmp 59) (.cst (LV.int .i64 9))⟩,
  ⟨(some 61), none, .conv .i64 (.tmp 60)⟩,
  ⟨(some 62), none, .mov (.tmp 7)⟩,
  ⟨(some 63), none, .bin .rem (.tmp 62) (.cst (LV.int .i64 8192))⟩,
  ⟨(some 64), none, .bin .mul (.tmp 63) (.cst (LV.int .i64 8))⟩,
  ⟨(some 65), none, .mov (.tmp 7)⟩,
  ⟨(some 66), none, .bin .quo (.tmp 65) (.cst (LV.int .i64 16384))⟩,
  ⟨(some 67), none, .bin .rem (.tmp 66) (.cst (LV.int .i64 2))⟩,
  ⟨(some 68), none, .bin .eql (.tmp 67) (.cst (LV.int .i64 1))⟩,
  ⟨(some 69), none, .mov (.tmp 7)⟩,
  ⟨(some 70), none, .bin .quo (.tmp 69) (.cst (LV.int .i64 8192))⟩,
  ⟨(some 71), none, .bin .rem (.tmp 70) (.cst (LV.int .i64 2))⟩,
  ⟨(some 72), none, .bin .eql (.tmp 71) (.cst (LV.int .i64 1))⟩,
  ⟨(some 73), none, .mov (.tmp 0)⟩,
  ⟨(some 74), none, .mov (.tmp 5)⟩,
  ⟨(some 75), none, .slc 0 (.tmp 73) (some (.cst (LV.int .i64 20))) (some (.tmp 74))⟩,
  ⟨(some 76), none, .mov (.tmp 0)⟩,
  ⟨(some 77), none, .mov (.tmp 5)⟩,
  ⟨(some 78), none, .mov (.tmp 6)⟩,
  ⟨(some 79), none, .slc 0 (.tmp 76) (some (.tmp 77)) (some (.tmp 78))⟩,
  ⟨(some 80), none, .build (LV.agg [(LV.int .i64 0), (LV.int .i64 0), (LV.int .i64 0), (LV.int .i64 0), (LV.int .i64 0), (LV.bool false), (LV.bool false), (LV.bytes [0, 0, 0, 0]), (LV.bytes [0, 0, 0, 0]), (LV.str []), (LV.str [])]) [(0, (.tmp 53)), (1, (.tmp 55)), (2, (.tmp 58)), (3, (.tmp 61)), (4, (.tmp 64)), (5, (.tmp 68)), (6, (.tmp 72)), (9, (.tmp 75)), (10, (.tmp 79))]⟩,
  ⟨(some 8), none, .alloc (LV.agg [(LV.int .i64 0), (LV.int .i64 0), (LV.int .i64 0), (LV.int .i64 0), (LV.int .i64 0), (LV.bool false), (LV.bool false), (LV.bytes [0, 0, 0, 0]), (LV.bytes [0, 0, 0, 0]), (LV.str []), (LV.str [])])⟩,
  ⟨none, none, .store 17 true (.tmp 8) (.tmp 80)⟩] []) (.seq (.seq (.reg [
  ⟨(some 9), none, .mov (.cst (LV.int .i64 0))⟩] []) (.block 0 (.loop [9] [81, 82, 85, 86, 87, 88, 89, 90, 91, 92, 93, 94, 95, 96, 97, 98, 83, 84] (.seq (.seq (.reg [
  ⟨(some 81), none, .mov (.tmp 9)⟩,
  ⟨(some 82), none, .bin .lss (.tmp 81) (.cst (LV.int .i64 4))⟩] []) (.cond (.tmp 82) .skip (.exit 0))) (.seq (.block 1 (.seq (.reg [
  ⟨(some 85), none, .mov (.tmp 9)⟩,
  ⟨(some 86), none, .mov (.tmp 0)⟩,
  ⟨(some 87), none, .mov (.tmp 9)⟩,
  ⟨(some 88), none, .bin .add (.cst (LV.int .i64 12)) (.tmp 87)⟩,
  ⟨(some 89), none, .idxStr (.tmp 86) (.tmp 88)⟩,
  ⟨(some 90), none, .fieldAddr 7 7 (.tmp 8)⟩,
  ⟨(some 91), none, .idxAddr (some 4) 1 (.tmp 90) (.tmp 85)⟩,
  ⟨none, none, .store 1 false (.tmp 91) (.tmp 89)⟩] []) (.reg [
  ⟨(some 92), none, .mov (.tmp 9)⟩,
  ⟨(some 93), none, .mov (.tmp 0)⟩,
  ⟨(some 94), none, .mov (.tmp 9)⟩,
  ⟨(some 95), none, .bin .add (.cst (LV.int .i64 16)) (.tmp 94)⟩,
  ⟨(some 96), none, .idxStr (.tmp 93) (.tmp 95)⟩,
  ⟨(some 97), none, .fieldAddr 8 11 (.tmp 8)⟩,
  ⟨(some 98), none, .idxAddr (some 4) 1 (.tmp 97) (.tmp 92)⟩,
  ⟨none, none, .store 1 false (.tmp 98) (.tmp 96)⟩] []))) (.reg [
  ⟨(some 83), none, .mov (.tmp 9)⟩,
  ⟨(some 84), none, .bin .add (.tmp 83) (.cst (LV.int .i64 1))⟩,
  ⟨(some 9), none, .mov (.tmp 84)⟩] [])))))) (.seq (.seq (.reg [
  ⟨(some 99), none, .mov (.tmp 7)⟩,
  ⟨(some 100), none, .bin .geq (.tmp 99) (.cst (LV.int .i64 32768))⟩,
  ⟨(some 101), none, .mov (.tmp 100)⟩,
  ⟨(some 102), (some (101, false)), .load 17 true (.tmp 8)⟩,
  ⟨(some 103), (some (101, false)), .call id_interpreterref03_Why [(.tmp 102)]⟩,
  ⟨(some 104), (some (101, false)), .bin .neq (.tmp 103) (.cst (LV.int .i64 0))⟩,
  ⟨(some 105), none, .pick (.tmp 101) (.cst (LV.bool true)) (.tmp 104)⟩] []) (.cond (.tmp 105) (.seq (.reg [
  ⟨(some 106), none, .load 17 true (.tmp 4)⟩,
  ⟨none, none, .store 17 true (.tmp 2) (.tmp 106)⟩,
  ⟨(some 3), none, .mov (.cst (LV.int .i64 8))⟩] []) .ret) .skip)) (.seq (.reg [
  ⟨(some 107), none, .load 17 true (.tmp 8)⟩,
  ⟨none, none, .store 17 true (.tmp 2) (.tmp 107)⟩,
  ⟨(some 3), none, .mov (.cst (LV.int .i64 0))⟩] []) .ret))))))))))))))), [.cell 2 17 true, .tmp 3]⟩
/-- interpreter/head46.Proto -/
def c_head46_Proto : MFn := ⟨1, 21, (.seq (.reg [
  ⟨(some 2), none, .mov (.cst (LV.int .i64 0))⟩,
  ⟨(some 3), none, .mov (.cst (LV.bool false))⟩] []) (.seq (.seq (.reg [
  ⟨(some 4), none, .mov (.tmp 0)⟩] []) (.block 0 (.seq (.reg [
  ⟨(some 6), none, .bin .eql (.tmp 4) (.cst (LV.int .i64 1))⟩,
  ⟨(some 5), none, .mov (.tmp 6)⟩] []) (.cond (.tmp 5) (.seq (.reg [
  ⟨(some 2), none, .mov (.cst (LV.int .i64 58))⟩,
  ⟨(some 3), none, .mov (.cst (LV.bool true))⟩] []) .ret) (.seq (.seq (.reg [
  ⟨(some 8), none, .bin .eql (.tmp 4) (.cst (LV.int .i64 0))⟩,
  ⟨(some 7), none, .mov (.tmp 8)⟩] []) (.cond (.tmp 7) .skip (.seq (.reg [
  ⟨(some 9), none, .bin .eql (.tmp 4) (.cst (LV.int .i64 2))⟩,
  ⟨(some 7), none, .mov (.tmp 9)⟩] []) (.cond (.tmp 7) .skip (.seq (.reg [
  ⟨(some 10), none, .bin .eql (.tmp 4) (.cst (LV.int .i64 43))⟩,
  ⟨(some 7), none, .mov (.tmp 10)⟩] []) (.cond (.tmp 7) .skip (.seq (.reg [
  ⟨(some 11), none, .bin .eql (.tmp 4) (.cst (LV.int .i64 44))⟩,
  ⟨(some 7), none, .mov (.tmp 11)⟩] []) (.cond (.tmp 7) .skip (.seq (.reg [
  ⟨(some 12), none, .bin .eql (.tmp 4) (.cst (LV.int .i64 58))⟩,
  ⟨(some 7), none, .mov (.tmp 12)⟩] []) (.cond (.tmp 7) .skip (.reg [
  ⟨(some 13), none, .bin .eql (.tmp 4) (.cst (LV.int .i64 60))⟩,
  ⟨(some 7), none, .mov (.tmp 13)⟩] []))))))))))) (.cond (.tmp 7) (.seq (.reg [
  ⟨(some 2), none, .mov (.cst (LV.int .i64 0))⟩,
  ⟨(some 3), none, .mov (.cst (LV.bool false))⟩] []) .ret) .skip)))))) (.seq (.seq (.reg [
  ⟨(some 14), none, .mov (.tmp 0)⟩,
  ⟨(some 15), none, .bin .lss (.tmp 14) (.cst (LV.int .i64 0))⟩,
  ⟨(some 16), none, .mov (.tmp 15)⟩,
  ⟨(some 17), (some (16, false)), .mov (.tmp 0)⟩,
  ⟨(some 18), (some (16, false)), .bin .gtr (.tmp 17) (.cst (LV.int .i64 255))⟩,
  ⟨(some 19), none, .pick (.tmp 16) (.cst (LV.bool true)) (.tmp 18)⟩] []) (.cond (.tmp 19) (.seq (.reg [
  ⟨(some 2), none, .mov (.cst (LV.int .i64 0))⟩,
  ⟨(some 3), none, .mov (.cst (LV.bool false))⟩] []) .ret) .skip)) (.seq (.reg [
  ⟨(some 20), none, .mov (.tmp 0)⟩,
  ⟨(some 2), none, .mov (.tmp 20)⟩,
  ⟨(some 3), none, .mov (.cst (LV.bool true))⟩] []) .ret)))), [.tmp 2, .tmp 3]⟩
/-- interpreter/fault.within -/
def c_fault_within : MFn := ⟨2, 21, (.seq (.reg [
  ⟨(some 4), none, .mov (.cst (LV.bool false))⟩] []) (.seq (.seq (.reg [
  ⟨(some 7), none, .mov (.tmp 1)⟩,
  ⟨(some 8), none, .len false (.tmp 7)⟩,
  ⟨(some 9), none, .mov (.cst (LV.int .i64 0))⟩] []) (.block 0 (.loop [4, 9] [10, 11, 12, 6, 13, 14, 15, 16, 17, 18, 19, 20] (.seq (.reg [
  ⟨(some 10), none, .bin .lss (.tmp 9) (.tmp 8)⟩] []) (.seq (.cond (.tmp 10) .skip (.exit 0)) (.seq (.block 1 (.seq (.reg [
  ⟨(some 11), none, .idxAddr none 1 (.tmp 7) (.tmp 9)⟩,
  ⟨(some 12), none, .load 1 false (.tmp 11)⟩,
  ⟨(some 6), none, .mov (.tmp 12)⟩] []) (.seq (.reg [
  ⟨(some 13), none, .mov (.tmp 6)⟩,
  ⟨(some 14), none, .bin .lss (.tmp 13) (.cst (LV.int .i64 0))⟩,
  ⟨(some 15), none, .mov (.tmp 14)⟩,
  ⟨(some 16), (some (15, false)), .mov (.tmp 6)⟩,
  ⟨(some 17), (some (15, false)), .mov (.tmp 0)⟩,
  ⟨(some 18), (some (15, false)), .bin .gtr (.tmp 16) (.tmp 17)⟩,
  ⟨(some 19), none, .pick (.tmp 15) (.cst (LV.bool true)) (.tmp 18)⟩] []) (.cond (.tmp 19) (.seq (.reg [
  ⟨(some 4), none, .mov (.cst (LV.bool false))⟩] []) .ret) .skip)))) (.reg [
  ⟨(some 20), none, .bin .add (.tmp 9) (.cst (LV.int .i64 1))⟩,
  ⟨(some 9), none, .mov (.tmp 20)⟩] []))))))) (.seq (.reg [
  ⟨(some 4), none, .mov (.cst (LV.bool true))⟩] []) .ret))), [.tmp 4]⟩
/-- interpreter/fault.big -/
def c_fault_big : MFn := ⟨2, 14, (.seq (.reg [
  ⟨(some 4), none, .mov (.cst (LV.str []))⟩] []) (.seq (.reg [
  ⟨(some 8), none, .mov (.tmp 0)⟩,
  ⟨(some 9), none, .mov (.tmp 1)⟩,
  ⟨(some 10), none, .call id_num_Big [(.tmp 8), (.tmp 9)]⟩,
  ⟨(some 7), none, .mov (.tmp 10)⟩,
  ⟨(some 11), none, .extract (.tmp 7) 0⟩,
  ⟨(some 12), none, .extract (.tmp 7) 1⟩,
  ⟨(some 5), none, .mov (.tmp 11)⟩,
  ⟨(some 6), none, .mov (.tmp 12)⟩] []) (.seq (.reg [
  ⟨(some 13), none, .mov (.tmp 5)⟩,
  ⟨(some 4), none, .mov (.tmp 13)⟩] []) .ret))), [.tmp 4]⟩
/-- interpreter/fault.turn6 -/
def c_fault_turn6 : MFn := ⟨4, 84, (.seq (.reg [
  ⟨(some 4), none, .box (.tmp 0)⟩,
  ⟨(some 6), none, .box (.tmp 2)⟩,
  ⟨(some 7), none, .box (.tmp 3)⟩,
  ⟨(some 8), none, .mov (.cst (LV.str []))⟩] []) (.seq (.block 0 (.seq (.reg [
  ⟨(some 11), none, .fieldAddr 4 4 (.tmp 4)⟩,
  ⟨(some 12), none, .load 1 false (.tmp 11)⟩,
  ⟨(some 13), none, .bin .gtr (.tmp 12) (.cst (LV.int .i64 0))⟩,
  ⟨(some 10), none, .mov (.tmp 13)⟩] []) (.cond (.tmp 10) .skip (.seq (.reg [
  ⟨(some 15), none, .fieldAddr 3 3 (.tmp 4)⟩,
  ⟨(some 16), none, .load 1 false (.tmp 15)⟩,
  ⟨(some 17), none, .bin .eql (.tmp 16) (.cst (LV.int .i64 6))⟩,
  ⟨(some 18), none, .mov (.tmp 17)⟩,
  ⟨(some 19), (some (18, false)), .fieldAddr 3 3 (.tmp 4)⟩,
  ⟨(some 20), (some (18, false)), .load 1 false (.tmp 19)⟩,
  ⟨(some 21), (some (18, false)), .bin .eql (.tmp 20) (.cst (LV.int .i64 17))⟩,
  ⟨(some 22), none, .pick (.tmp 18) (.cst (LV.bool true)) (.tmp 21)⟩,
  ⟨(some 14), none, .mov (.tmp 22)⟩] []) (.cond (.tmp 14) (.seq (.reg [
  ⟨(some 23), none, .fieldAddr 3 3 (.tmp 4)⟩,
  ⟨(some 24), none, .load 1 false (.tmp 23)⟩,
  ⟨(some 25), none, .fieldAddr 10 16 (.tmp 4)⟩,
  ⟨(some 26), none, .load 1 false (.tmp 25)⟩,
  ⟨(some 27), none, .fieldAddr 7 7 (.tmp 4)⟩,
  ⟨(some 28), none, .slcArr 4 (.tmp 27) none none⟩,
  ⟨(some 29), none, .b2s (.tmp 28)⟩,
  ⟨(some 30), none, .fieldAddr 8 11 (.tmp 4)⟩,
  ⟨(some 31), none, .slcArr 4 (.tmp 30) none none⟩,
  ⟨(some 32), none, .b2s (.tmp 31)⟩,
  ⟨(some 33), none, .bin .add (.tmp 29) (.tmp 32)⟩,
  ⟨(some 34), none, .fieldAddr 0 0 (.tmp 6)⟩,
  ⟨(some 35), none, .slcArr 16 (.tmp 34) none none⟩,
  ⟨(some 36), none, .b2s (.tmp 35)⟩,
  ⟨(some 37), none, .fieldAddr 0 0 (.tmp 7)⟩,
  ⟨(some 38), none, .slcArr 16 (.tmp 37) none none⟩,
  ⟨(some 39), none, .b2s (.tmp 38)⟩,
  ⟨(some 40), none, .bin .add (.tmp 36) (.tmp 39)⟩,
  ⟨(some 41), none, .fieldAddr 1 16 (.tmp 6)⟩,
  ⟨(some 42), none, .load 1 false (.tmp 41)⟩,
  ⟨(some 43), none, .fieldAddr 1 16 (.tmp 7)⟩,
  ⟨(some 44), none, .load 1 false (.tmp 43)⟩,
  ⟨(some 45), none, .call id_fault_ported [(.tmp 24), (.tmp 26), (.tmp 33), (.tmp 40), (.tmp 42), (.tmp 44)]⟩,
  ⟨(some 8), none, .mov (.tmp 45)⟩] []) .ret) (.seq (.reg [
  ⟨(some 47), none, .fieldAddr 3 3 (.tmp 4)⟩,
  ⟨(some 48), none, .load 1 false (.tmp 47)⟩,
  ⟨(some 49), none, .bin .eql (.tmp 48) (.cst (LV.int .i64 1))⟩,
  ⟨(some 50), none, .mov (.tmp 49)⟩,
  ⟨(some 51), (some (50, true)), .fieldAddr 10 16 (.tmp 4)⟩,
  ⟨(some 52), (some (50, true)), .load 1 false (.tmp 51)⟩,
  ⟨(some 53), (some (50, true)), .len true (.tmp 52)⟩,
  ⟨(some 54), (some (50, true)), .bin .geq (.tmp 53) (.cst (LV.int .i64 8))⟩,
  ⟨(some 55), none, .pick (.tmp 50) (.tmp 54) (.cst (LV.bool false))⟩,
  ⟨(some 46), none, .mov (.tmp 55)⟩] []) (.cond (.tmp 46) (.seq (.reg [
  ⟨(some 56), none, .mapNew⟩,
  ⟨none, none, .mapIns (some .u8) (.tmp 56) (.cst (LV.int .u8 8)) (.cst (LV.int .i64 128))⟩,
  ⟨none, none, .mapIns (some .u8) (.tmp 56) (.cst (LV.int .u8 0)) (.cst (LV.int .i64 129))⟩,
  ⟨(some 57), none, .mov (.tmp 56)⟩,
  ⟨(some 58), none, .fieldAddr 10 16 (.tmp 4)⟩,
  ⟨(some 59), none, .load 1 false (.tmp 58)⟩,
  ⟨(some 60), none, .idxStr (.tmp 59) (.cst (LV.int .i64 0))⟩,
  ⟨(some 61), none, .mapGet (some .u8) (LV.int .i64 0) false (.tmp 57) (.tmp 60)⟩,
  ⟨(some 9), none, .mov (.tmp 61)⟩] []) (.seq (.reg [
  ⟨(some 62), none, .mov (.tmp 9)⟩,
  ⟨(some 63), none, .bin .gtr (.tmp 62) (.cst (LV.int .i64 0))⟩,
  ⟨(some 64), none, .mov (.tmp 63)⟩,
  ⟨(some 65), (some (64, true)), .fieldAddr 10 16 (.tmp 4)⟩,
  ⟨(some 66), (some (64, true)), .load 1 false (.tmp 65)⟩,
  ⟨(some 67), (some (64, true)), .idxStr (.tmp 66) (.cst (LV.int .i64 1))⟩,
  ⟨(some 68), (some (64, true)), .bin .eql (.tmp 67) (.cst (LV.int .u8 0))⟩,
  ⟨(some 69), none, .pick (.tmp 64) (.tmp 68) (.cst (LV.bool false))⟩] []) (.cond (.tmp 69) (.seq (.reg [
  ⟨(some 70), none, .fieldAddr 10 16 (.tmp 4)⟩,
  ⟨(some 71), none, .load 1 false (.tmp 70)⟩,
  ⟨(some 72), none, .fieldAddr 0 0 (.tmp 6)⟩,
  ⟨(some 73), none, .load 16 true (.tmp 72)⟩,
  ⟨(some 74), none, .fieldAddr 0 0 (.tmp 7)⟩,
  ⟨(some 75), none, .load 16 true (.tmp 74)⟩,
  ⟨(some 76), none, .mov (.tmp 1)⟩,
  ⟨(some 77), none, .call id_sum_Pseudo6 [(.tmp 73), (.tmp 75), (.cst (LV.int .i64 58)), (.tmp 76)]⟩,
  ⟨(some 78), none, .mov (.tmp 9)⟩,
  ⟨(some 79), none, .fieldAddr 1 16 (.tmp 6)⟩,
  ⟨(some 80), none, .load 1 false (.tmp 79)⟩,
  ⟨(some 81), none, .call id_fault_echoed [(.tmp 71), (.cst (LV.str [])), (.tmp 77), (.tmp 78), (.tmp 80)]⟩,
  ⟨(some 8), none, .mov (.tmp 81)⟩] []) .ret) .skip))) .skip))))))) (.seq (.reg [
  ⟨(some 82), none, .fieldAddr 10 16 (.tmp 4)⟩,
  ⟨(some 83), none, .load 1 false (.tmp 82)⟩,
  ⟨(some 8), none, .mov (.tmp 83)⟩] []) .ret))), [.tmp 8]⟩
/-- interpreter/sum.Of -/
def c_sum_Of : MFn := ⟨1, 25, (.seq (.reg [
  ⟨(some 2), none, .mov (.cst (LV.int .i64 0))⟩] []) (.seq (.reg [
  ⟨(some 3), none, .mov (.cst (LV.int .i64 0))⟩,
  ⟨(some 4), none, .mov (.cst (LV.int .i64 0))⟩] []) (.seq (.seq (.reg [
  ⟨(some 7), none, .mov (.tmp 0)⟩,
  ⟨(some 8), none, .len false (.tmp 7)⟩,
  ⟨(some 9), none, .mov (.cst (LV.int .i64 0))⟩] []) (.block 0 (.loop [3, 4, 9] [10, 11, 12, 6, 13, 14, 15, 16, 17, 18, 19, 20, 21, 22] (.seq (.reg [
  ⟨(some 10), none, .bin .lss (.tmp 9) (.tmp 8)⟩] []) (.seq (.cond (.tmp 10) .skip (.exit 0)) (.seq (.block 1 (.seq (.reg [
  ⟨(some 11), none, .idxAddr none 1 (.tmp 7) (.tmp 9)⟩,
  ⟨(some 12), none, .load 1 false (.tmp 11)⟩,
  ⟨(some 6), none, .mov (.tmp 12)⟩] []) (.seq (.reg [
  ⟨(some 13), none, .mov (.tmp 3)⟩,
  ⟨(some 14), none, .mov (.tmp 4)⟩,
  ⟨(some 15), none, .mov (.tmp 6)⟩,
  ⟨(some 16), none, .call id_sum_add [(.tmp 13), (.tmp 14), (.tmp 15), (.cst (LV.int .u8 0))]⟩,
  ⟨(some 17), none, .call id_sum_fold [(.tmp 16)]⟩,
  ⟨(some 3), none, .mov (.tmp 17)⟩] []) (.reg [
  ⟨(some 18), none, .mov (.tmp 4)⟩,
  ⟨(some 19), none, .mov (.tmp 6)⟩,
  ⟨(some 20), none, .len true (.tmp 19)⟩,
  ⟨(some 21), none, .bin .add (.tmp 18) (.tmp 20)⟩,
  ⟨(some 4), none, .mov (.tmp 21)⟩] [])))) (.reg [
  ⟨(some 22), none, .bin .add (.tmp 9) (.cst (LV.int .i64 1))⟩,
  ⟨(some 9), none, .mov (.tmp 22)⟩] []))))))) (.seq (.reg [
  ⟨(some 23), none, .mov (.tmp 3)⟩,
  ⟨(some 24), none, .bin .sub (.cst (LV.int .i64 65535)) (.tmp 23)⟩,
  ⟨(some 2), none, .mov (.tmp 24)⟩] []) .ret)))), [.tmp 2]⟩
/-- interpreter/ip4.fault -/
def c_ip4_fault : MFn := ⟨1, 7, (.seq (.reg [
  ⟨(some 2), none, .mov (.cst LV.nili)⟩] []) (.seq (.reg [
  ⟨(some 3), none, .mov (.tmp 0)⟩,
  ⟨(some 4), none, .build (LV.agg [(LV.int .i64 0), (LV.int .i64 0)]) [(0, (.tmp 3))]⟩,
  ⟨(some 5), none, .box (.tmp 4)⟩,
  ⟨(some 6), none, .mkIface ty_ptr_num_Fault (.tmp 5)⟩,
  ⟨(some 2), none, .mov (.tmp 6)⟩] []) .ret)), [.tmp 2]⟩
/-- interpreter/ip4.Parse$1 -/
def c_ip4_Parse_1 : MFn := ⟨2, 15, (.seq (.reg [
  ⟨(some 3), none, .mov (.cst (LV.int .i64 0))⟩] []) (.seq (.reg [
  ⟨(some 4), none, .load 1 false (.tmp 1)⟩,
  ⟨(some 5), none, .mov (.tmp 0)⟩,
  ⟨(some 6), none, .idxStr (.tmp 4) (.tmp 5)⟩,
  ⟨(some 7), none, .conv .i64 (.tmp 6)⟩,
  ⟨(some 8), none, .bin .shl (.tmp 7) (.cst (LV.int .u64 8))⟩,
  ⟨(some 9), none, .load 1 false (.tmp 1)⟩,
  ⟨(some 10), none, .mov (.tmp 0)⟩,
  ⟨(some 11), none, .bin .add (.tmp 10) (.cst (LV.int .i64 1))⟩,
  ⟨(some 12), none, .idxStr (.tmp 9) (.tmp 11)⟩,
  ⟨(some 13), none, .conv .i64 (.tmp 12)⟩,
  ⟨(some 14), none, .bin .or (.tmp 8) (.tmp 13)⟩,
  ⟨(some 3), none, .mov (.tmp 14)⟩] []) .ret)), [.tmp 3]⟩
/-- interpreter/ip4.why -/
def c_ip4_why : MFn := ⟨1, 79, (.seq (.reg [
  ⟨(some 1), none, .box (.tmp 0)⟩,
  ⟨(some 2), none, .mov (.cst (LV.int .i64 0))⟩] []) (.seq (.block 0 (.seq (.reg [
  ⟨(some 4), none, .fieldAddr 0 0 (.tmp 1)⟩,
  ⟨(some 5), none, .load 1 false (.tmp 4)⟩,
  ⟨(some 6), none, .fieldAddr 2 2 (.tmp 1)⟩,
  ⟨(some 7), none, .load 1 false (.tmp 6)⟩,
  ⟨(some 8), none, .fieldAddr 3 3 (.tmp 1)⟩,
  ⟨(some 9), none, .load 1 false (.tmp 8)⟩,
  ⟨(some 10), none, .bsl (LV.int .i64 0) 3 [(0, (.tmp 5)), (1, (.tmp 7)), (2, (.tmp 9))]⟩,
  ⟨(some 11), none, .call id_ip4_byteful [(.tmp 10)]⟩,
  ⟨(some 12), none, .un .not (.tmp 11)⟩,
  ⟨(some 13), none, .mov (.tmp 12)⟩,
  ⟨(some 14), (some (13, false)), .fieldAddr 1 1 (.tmp 1)⟩,
  ⟨(some 15), (some (13, false)), .load 1 false (.tmp 14)⟩,
  ⟨(some 16), (some (13, false)), .bin .lss (.tmp 15) (.cst (LV.int .i64 0))⟩,
  ⟨(some 17), none, .pick (.tmp 13) (.cst (LV.bool true)) (.tmp 16)⟩,
  ⟨(some 18), none, .mov (.tmp 17)⟩,
  ⟨(some 19), (some (18, false)), .fieldAddr 1 1 (.tmp 1)⟩,
  ⟨(some 20), (some (18, false)), .load 1 false (.tmp 19)⟩,
  ⟨(some 21), (some (18, false)), .bin .gtr (.tmp 20) (.cst (LV.int .i64 65535))⟩,
  ⟨(some 22), none, .pick (.tmp 18) (.cst (LV.bool true)) (.tmp 21)⟩,
  ⟨(some 23), none, .mov (.tmp 22)⟩,
  ⟨(some 24), (some (23, false)), .fieldAddr 4 4 (.tmp 1)⟩,
  ⟨(some 25), (some (23, false)), .load 1 false (.tmp 24)⟩,
  ⟨(some 26), (some (23, false)), .bin .lss (.tmp 25) (.cst (LV.int .i64 0))⟩,
  ⟨(some 27), none, .pick (.tmp 23) (.cst (LV.bool true)) (.tmp 26)⟩,
  ⟨(some 28), none, .mov (.tmp 27)⟩,
  ⟨(some 29), (some (28, false)), .fieldAddr 4 4 (.tmp 1)⟩,
  ⟨(some 30), (some (28, false)), .load 1 false (.tmp 29)⟩,
  ⟨(some 31), (some (28, false)), .bin .gtr (.tmp 30) (.cst (LV.int .i64 65528))⟩,
  ⟨(some 32), none, .pick (.tmp 28) (.cst (LV.bool true)) (.tmp 31)⟩,
  ⟨(some 33), none, .mov (.tmp 32)⟩,
  ⟨(some 34), (some (33, false)), .fieldAddr 4 4 (.tmp 1)⟩,
  ⟨(some 35), (some (33, false)), .load 1 false (.tmp 34)⟩,
  ⟨(some 36), (some (33, false)), .bin .rem (.tmp 35) (.cst (LV.int .i64 8))⟩,
  ⟨(some 37), (some (33, false)), .bin .neq (.tmp 36) (.cst (LV.int .i64 0))⟩,
  ⟨(some 38), none, .pick (.tmp 33) (.cst (LV.bool true)) (.tmp 37)⟩,
  ⟨(some 3), none, .mov (.tmp 38)⟩] []) (.cond (.tmp 3) (.seq (.reg [
  ⟨(some 2), none, .mov (.cst (LV.int .i64 13))⟩] []) .ret) (.seq (.reg [
  ⟨(some 40), none, .fieldAddr 9 15 (.tmp 1)⟩,
  ⟨(some 41), none, .load 1 false (.tmp 40)⟩,
  ⟨(some 42), none, .len true (.tmp 41)⟩,
  ⟨(some 43), none, .bin .gtr (.tmp 42) (.cst (LV.int .i64 40))⟩,
  ⟨(some 44), none, .mov (.tmp 43)⟩,
  ⟨(some 45), (some (44, false)), .fieldAddr 9 15 (.tmp 1)⟩,
  ⟨(some 46), (some (44, false)), .load 1 false (.tmp 45)⟩,
  ⟨(some 47), (some (44, false)), .len true (.tmp 46)⟩,
  ⟨(some 48), (some (44, false)), .bin .rem (.tmp 47) (.cst (LV.int .i64 4))⟩,
  ⟨(some 49), (some (44, false)), .bin .neq (.tmp 48) (.cst (LV.int .i64 0))⟩,
  ⟨(some 50), none, .pick (.tmp 44) (.cst (LV.bool true)) (.tmp 49)⟩,
  ⟨(some 51), none, .mov (.tmp 50)⟩,
  ⟨(some 52), (some (51, false)), .fieldAddr 6 6 (.tmp 1)⟩,
  ⟨(some 53), (some (51, false)), .load 1 false (.tmp 52)⟩,
  ⟨(some 54), (some (51, false)), .mov (.tmp 53)⟩,
  ⟨(some 55), (some (54, true)), .fieldAddr 10 16 (.tmp 1)⟩,
  ⟨(some 56), (some (54, true)), .load 1 false (.tmp 55)⟩,
  ⟨(some 57), (some (54, true)), .bin .eql (.tmp 56) (.cst (LV.str []))⟩,
  ⟨(some 58), (some (54, true)), .mov (.tmp 57)⟩,
  ⟨(some 59), (some (58, false)), .fieldAddr 10 16 (.tmp 1)⟩,
  ⟨(some 60), (some (58, false)), .load 1 false (.tmp 59)⟩,
  ⟨(some 61), (some (58, false)), .len true (.tmp 60)⟩,
  ⟨(some 62), (some (58, false)), .bin .rem (.tmp 61) (.cst (LV.int .i64 8))⟩,
  ⟨(some 63), (some (58, false)), .bin .neq (.tmp 62) (.cst (LV.int .i64 0))⟩,
  ⟨(some 64), (some (54, true)), .pick (.tmp 58) (.cst (LV.bool true)) (.tmp 63)⟩,
  ⟨(some 65), (some (51, false)), .pick (.tmp 54) (.tmp 64) (.cst (LV.bool false))⟩,
  ⟨(some 66), none, .pick (.tmp 51) (.cst (LV.bool true)) (.tmp 65)⟩,
  ⟨(some 39), none, .mov (.tmp 66)⟩] []) (.cond (.tmp 39) (.seq (.reg [
  ⟨(some 2), none, .mov (.cst (LV.int .i64 8))⟩] []) .ret) (.seq (.reg [
  ⟨(some 68), none, .fieldAddr 10 16 (.tmp 1)⟩,
  ⟨(some 69), none, .load 1 false (.tmp 68)⟩,
  ⟨(some 70), none, .len true (.tmp 69)⟩,
  ⟨(some 71), none, .fieldAddr 9 15 (.tmp 1)⟩,
  ⟨(some 72), none, .load 1 false (.tmp 71)⟩,
  ⟨(some 73), none, .len true (.tmp 72)⟩,
  ⟨(some 74), none, .bin .sub (.cst (LV.int .i64 65515)) (.tmp 73)⟩,
  ⟨(some 75), none, .fieldAddr 4 4 (.tmp 1)⟩,
  ⟨(some 76), none, .load 1 false (.tmp 75)⟩,
  ⟨(some 77), none, .bin .sub (.tmp 74) (.tmp 76)⟩,
  ⟨(some 78), none, .bin .gtr (.tmp 70) (.tmp 77)⟩,
  ⟨(some 67), none, .mov (.tmp 78)⟩] []) (.cond (.tmp 67) (.seq (.reg [
  ⟨(some 2), none, .mov (.cst (LV.int .i64 3))⟩] []) .ret) .skip))))))) (.seq (.reg [
  ⟨(some 2), none, .mov (.cst (LV.int .i64 0))⟩] []) .ret))), [.tmp 2]⟩
/-- interpreter/sum.big -/
def c_sum_big : MFn := ⟨2, 19, (.seq (.reg [
  ⟨(some 4), none, .mov (.cst (LV.str []))⟩] []) (.seq (.reg [
  ⟨(some 8), none, .mov (.tmp 0)⟩,
  ⟨(some 9), none, .mov (.tmp 1)⟩,
  ⟨(some 10), none, .bin .mul (.cst (LV.int .i64 8)) (.tmp 9)⟩,
  ⟨(some 11), none, .bin .shl (.cst (LV.int .i64 1)) (.tmp 10)⟩,
  ⟨(some 12), none, .bin .sub (.tmp 11) (.cst (LV.int .i64 1))⟩,
  ⟨(some 13), none, .bin .and (.tmp 8) (.tmp 12)⟩,
  ⟨(some 14), none, .mov (.tmp 1)⟩,
  ⟨(some 15), none, .call id_num_Big [(.tmp 13), (.tmp 14)]⟩,
  ⟨(some 7), none, .mov (.tmp 15)⟩,
  ⟨(some 16), none, .extract (.tmp 7) 0⟩,
  ⟨(some 17), none, .extract (.tmp 7) 1⟩,
  ⟨(some 5), none, .mov (.tmp 16)⟩,
  ⟨(some 6), none, .mov (.tmp 17)⟩] []) (.seq (.reg [
  ⟨(some 18), none, .mov (.tmp 5)⟩,
  ⟨(some 4), none, .mov (.tmp 18)⟩] []) .ret))), [.tmp 4]⟩
/-- interpreter/interpreterref03.within -/
def c_interpreterref03_within : MFn := ⟨2, 12, (.seq (.reg [
  ⟨(some 4), none, .mov (.cst (LV.bool false))⟩] []) (.seq (.reg [
  ⟨(some 5), none, .mov (.tmp 0)⟩,
  ⟨(some 6), none, .bin .geq (.tmp 5) (.cst (LV.int .i64 0))⟩,
  ⟨(some 7), none, .mov (.tmp 6)⟩,
  ⟨(some 8), (some (7, true)), .mov (.tmp 0)⟩,
  ⟨(some 9), (some (7, true)), .mov (.tmp 1)⟩,
  ⟨(some 10), (some (7, true)), .bin .leq (.tmp 8) (.tmp 9)⟩,
  ⟨(some 11), none, .pick (.tmp 7) (.tmp 10) (.cst (LV.bool false))⟩,
  ⟨(some 4), none, .mov (.tmp 11)⟩] []) .ret)), [.tmp 4]⟩
/-- interpreter/interpreterref02.Total -/
def c_interpreterref02_Total : MFn := ⟨1, 25, (.seq (.reg [
  ⟨(some 2), none, .mov (.cst (LV.int .i64 0))⟩] []) (.seq (.reg [
  ⟨(some 3), none, .mov (.cst (LV.int .i64 0))⟩] []) (.seq (.seq (.reg [
  ⟨(some 4), none, .mov (.cst (LV.int .i64 0))⟩] []) (.block 0 (.loop [3, 4] [5, 6, 7, 8, 11, 12, 13, 14, 15, 16, 9, 10] (.seq (.seq (.reg [
  ⟨(some 5), none, .mov (.tmp 4)⟩,
  ⟨(some 6), none, .mov (.tmp 0)⟩,
  ⟨(some 7), none, .len false (.tmp 6)⟩,
  ⟨(some 8), none, .bin .lss (.tmp 5) (.tmp 7)⟩] []) (.cond (.tmp 8) .skip (.exit 0))) (.seq (.block 1 (.reg [
  ⟨(some 11), none, .mov (.tmp 3)⟩,
  ⟨(some 12), none, .mov (.tmp 0)⟩,
  ⟨(some 13), none, .mov (.tmp 4)⟩,
  ⟨(some 14), none, .idxAddr none 1 (.tmp 12) (.tmp 13)⟩,
  ⟨(some 15), none, .load 1 false (.tmp 14)⟩,
  ⟨(some 16), none, .bin .add (.tmp 11) (.tmp 15)⟩,
  ⟨(some 3), none, .mov (.tmp 16)⟩] [])) (.reg [
  ⟨(some 9), none, .mov (.tmp 4)⟩,
  ⟨(some 10), none, .bin .add (.tmp 9) (.cst (LV.int .i64 1))⟩,
  ⟨(some 4), none, .mov (.tmp 10)⟩] [])))))) (.seq (.block 2 (.loop [3] [17, 18, 19, 20, 21, 22, 23] (.seq (.seq (.reg [
  ⟨(some 17), none, .mov (.tmp 3)⟩,
  ⟨(some 18), none, .bin .gtr (.tmp 17) (.cst (LV.int .i64 65535))⟩] []) (.cond (.tmp 18) .skip (.exit 2))) (.block 3 (.reg [
  ⟨(some 19), none, .mov (.tmp 3)⟩,
  ⟨(some 20), none, .bin .quo (.tmp 19) (.cst (LV.int .i64 65536))⟩,
  ⟨(some 21), none, .mov (.tmp 3)⟩,
  ⟨(some 22), none, .bin .rem (.tmp 21) (.cst (LV.int .i64 65536))⟩,
  ⟨(some 23), none, .bin .add (.tmp 20) (.tmp 22)⟩,
  ⟨(some 3), none, .mov (.tmp 23)⟩] []))))) (.seq (.reg [
  ⟨(some 24), none, .mov (.tmp 3)⟩,
  ⟨(some 2), none, .mov (.tmp 24)⟩] []) .ret))))), [.tmp 2]⟩
/-- interpreter/interpreterref02.Words -/
def c_interpreterref02_Words : MFn := ⟨1, 34, (.seq (.reg [
  ⟨(some 2), none, .mov (.cst LV.nils)⟩] []) (.seq (.reg [
  ⟨(some 3), none, .nilT 1⟩] []) (.seq (.seq (.reg [
  ⟨(some 5), none, .mov (.tmp 0)⟩,
  ⟨(some 6), none, .len true (.tmp 5)⟩,
  ⟨(some 7), none, .bin .rem (.tmp 6) (.cst (LV.int .i64 2))⟩,
  ⟨(some 8), none, .bin .eql (.tmp 7) (.cst (LV.int .i64 1))⟩] []) (.cond (.tmp 8) (.reg [
  ⟨(some 9), none, .mov (.tmp 0)⟩,
  ⟨(some 10), none, .bsl (LV.int .u8 0) 1 [(0, (.cst (LV.int .u8 0)))]⟩,
  ⟨(some 11), none, .b2s (.tmp 10)⟩,
  ⟨(some 12), none, .bin .add (.tmp 9) (.tmp 11)⟩,
  ⟨(some 0), none, .mov (.tmp 12)⟩] []) .skip)) (.seq (.seq (.reg [
  ⟨(some 4), none, .mov (.cst (LV.int .i64 0))⟩] []) (.block 0 (.loop [3, 4] [13, 14, 15, 16, 19, 20, 21, 22, 23, 24, 25, 26, 27, 28, 29, 30, 31, 32, 17, 18] (.seq (.seq (.reg [
  ⟨(some 13), none, .mov (.tmp 4)⟩,
  ⟨(some 14), none, .mov (.tmp 0)⟩,
  ⟨(some 15), none, .len true (.tmp 14)⟩,
  ⟨(some 16), none, .bin .lss (.tmp 13) (.tmp 15)⟩] []) (.cond (.tmp 16) .skip (.exit 0))) (.seq (.block 1 (.reg [
  ⟨(some 19), none, .mov (.tmp 3)⟩,
  ⟨(some 20), none, .mov (.tmp 0)⟩,
  ⟨(some 21), none, .mov (.tmp 4)⟩,
  ⟨(some 22), none, .idxStr (.tmp 20) (.tmp 21)⟩,
  ⟨(some 23), none, .conv .i64 (.tmp 22)⟩,
  ⟨(some 24), none, .bin .mul (.cst (LV.int .i64 256)) (.tmp 23)⟩,
  ⟨(some 25), none, .mov (.tmp 0)⟩,
  ⟨(some 26), none, .mov (.tmp 4)⟩,
  ⟨(some 27), none, .bin .add (.tmp 26) (.cst (LV.int .i64 1))⟩,
  ⟨(some 28), none, .idxStr (.tmp 25) (.tmp 27)⟩,
  ⟨(some 29), none, .conv .i64 (.tmp 28)⟩,
  ⟨(some 30), none, .bin .add (.tmp 24) (.tmp 29)⟩,
  ⟨(some 31), none, .bsl (LV.int .i64 0) 1 [(0, (.tmp 30))]⟩,
  ⟨(some 32), none, .append 1 8 (.tmp 19) (.tmp 31)⟩,
  ⟨(some 3), none, .mov (.tmp 32)⟩] [])) (.reg [
  ⟨(some 17), none, .mov (.tmp 4)⟩,
  ⟨(some 18), none, .bin .add (.tmp 17) (.cst (LV.int .i64 2))⟩,
  ⟨(some 4), none, .mov (.tmp 18)⟩] [])))))) (.seq (.reg [
  ⟨(some 33), none, .mov (.tmp 3)⟩,
  ⟨(some 2), none, .mov (.tmp 33)⟩] []) .ret))))), [.tmp 2]⟩
/-- interpreter/num.Big -/
def c_num_Big : MFn := ⟨2, 55, (.seq (.reg [
  ⟨(some 4), none, .mov (.cst (LV.str []))⟩,
  ⟨(some 5), none, .mov (.cst LV.nili)⟩] []) (.seq (.block 0 (.seq (.reg [
  ⟨(some 9), none, .mov (.tmp 1)⟩,
  ⟨(some 10), none, .bin .neq (.tmp 9) (.cst (LV.int .i64 1))⟩,
  ⟨(some 11), none, .mov (.tmp 10)⟩,
  ⟨(some 12), (some (11, true)), .mov (.tmp 1)⟩,
  ⟨(some 13), (some (11, true)), .bin .neq (.tmp 12) (.cst (LV.int .i64 2))⟩,
  ⟨(some 14), none, .pick (.tmp 11) (.tmp 13) (.cst (LV.bool false))⟩,
  ⟨(some 15), none, .mov (.tmp 14)⟩,
  ⟨(some 16), (some (15, true)), .mov (.tmp 1)⟩,
  ⟨(some 17), (some (15, true)), .bin .neq (.tmp 16) (.cst (LV.int .i64 4))⟩,
  ⟨(some 18), none, .pick (.tmp 15) (.tmp 17) (.cst (LV.bool false))⟩,
  ⟨(some 8), none, .mov (.tmp 18)⟩] []) (.cond (.tmp 8) (.seq (.reg [
  ⟨(some 19), none, .build (LV.agg [(LV.int .i64 0), (LV.int .i64 0)]) [(0, (.cst (LV.int .i64 1)))]⟩,
  ⟨(some 20), none, .box (.tmp 19)⟩,
  ⟨(some 21), none, .mkIface ty_ptr_num_Fault (.tmp 20)⟩,
  ⟨(some 4), none, .mov (.cst (LV.str []))⟩,
  ⟨(some 5), none, .mov (.tmp 21)⟩] []) .ret) (.seq (.reg [
  ⟨(some 23), none, .mov (.tmp 0)⟩,
  ⟨(some 24), none, .bin .lss (.tmp 23) (.cst (LV.int .i64 0))⟩,
  ⟨(some 25), none, .mov (.tmp 24)⟩,
  ⟨(some 26), (some (25, false)), .mov (.tmp 0)⟩,
  ⟨(some 27), (some (25, false)), .mov (.tmp 1)⟩,
  ⟨(some 28), (some (25, false)), .bin .mul (.cst (LV.int .i64 8)) (.tmp 27)⟩,
  ⟨(some 29), (some (25, false)), .bin .shl (.cst (LV.int .i64 1)) (.tmp 28)⟩,
  ⟨(some 30), (some (25, false)), .bin .geq (.tmp 26) (.tmp 29)⟩,
  ⟨(some 31), none, .pick (.tmp 25) (.cst (LV.bool true)) (.tmp 30)⟩,
  ⟨(some 22), none, .mov (.tmp 31)⟩] []) (.cond (.tmp 22) (.seq (.reg [
  ⟨(some 32), none, .build (LV.agg [(LV.int .i64 0), (LV.int .i64 0)]) [(0, (.cst (LV.int .i64 13)))]⟩,
  ⟨(some 33), none, .box (.tmp 32)⟩,
  ⟨(some 34), none, .mkIface ty_ptr_num_Fault (.tmp 33)⟩,
  ⟨(some 4), none, .mov (.cst (LV.str []))⟩,
  ⟨(some 5), none, .mov (.tmp 34)⟩] []) .ret) .skip))))) (.seq (.reg [
  ⟨(some 35), none, .mov (.tmp 1)⟩,
  ⟨(some 36), none, .mkSl (.tmp 35) (.tmp 35)⟩,
  ⟨(some 6), none, .mov (.tmp 36)⟩] []) (.seq (.seq (.reg [
  ⟨(some 37), none, .mov (.tmp 1)⟩,
  ⟨(some 38), none, .mov (.cst (LV.int .i64 0))⟩] []) (.block 1 (.loop [38] [39, 40, 7, 41, 42, 43, 44, 45, 46, 47, 48, 49, 50, 51, 52] (.seq (.reg [
  ⟨(some 39), none, .bin .lss (.tmp 38) (.tmp 37)⟩] []) (.seq (.cond (.tmp 39) .skip (.exit 1)) (.seq (.block 2 (.seq (.reg [
  ⟨(some 40), none, .mov (.tmp 38)⟩,
  ⟨(some 7), none, .mov (.tmp 40)⟩] []) (.reg [
  ⟨(some 41), none, .mov (.tmp 6)⟩,
  ⟨(some 42), none, .mov (.tmp 7)⟩,
  ⟨(some 43), none, .mov (.tmp 0)⟩,
  ⟨(some 44), none, .mov (.tmp 1)⟩,
  ⟨(some 45), none, .bin .sub (.tmp 44) (.cst (LV.int .i64 1))⟩,
  ⟨(some 46), none, .mov (.tmp 7)⟩,
  ⟨(some 47), none, .bin .sub (.tmp 45) (.tmp 46)⟩,
  ⟨(some 48), none, .bin .mul (.cst (LV.int .i64 8)) (.tmp 47)⟩,
  ⟨(some 49), none, .bin .shr (.tmp 43) (.tmp 48)⟩,
  ⟨(some 50), none, .conv .u8 (.tmp 49)⟩,
  ⟨(some 51), none, .idxAddr none 1 (.tmp 41) (.tmp 42)⟩,
  ⟨none, none, .store 1 false (.tmp 51) (.tmp 50)⟩] []))) (.reg [
  ⟨(some 52), none, .bin .add (.tmp 38) (.cst (LV.int .i64 1))⟩,
  ⟨(some 38), none, .mov (.tmp 52)⟩] []))))))) (.seq (.reg [
  ⟨(some 53), none, .mov (.tmp 6)⟩,
  ⟨(some 54), none, .b2s (.tmp 53)⟩,
  ⟨(some 4), none, .mov (.tmp 54)⟩,
  ⟨(some 5), none, .mov (.cst LV.nili)⟩] []) .ret))))), [.tmp 4, .tmp 5]⟩
/-- interpreter/ip4.big -/
def c_ip4_big : MFn := ⟨2, 14, (.seq (.reg [
  ⟨(some 4), none, .mov (.cst (LV.str []))⟩] []) (.seq (.reg [
  ⟨(some 8), none, .mov (.tmp 0)⟩,
  ⟨(some 9), none, .mov (.tmp 1)⟩,
  ⟨(some 10), none, .call id_num_Big [(.tmp 8), (.tmp 9)]⟩,
  ⟨(some 7), none, .mov (.tmp 10)⟩,
  ⟨(some 11), none, .extract (.tmp 7) 0⟩,
  ⟨(some 12), none, .extract (.tmp 7) 1⟩,
  ⟨(some 5), none, .mov (.tmp 11)⟩,
  ⟨(some 6), none, .mov (.tmp 12)⟩] []) (.seq (.reg [
  ⟨(some 13), none, .mov (.tmp 5)⟩,
  ⟨(some 4), none, .mov (.tmp 13)⟩] []) .ret))), [.tmp 4]⟩
/-- interpreter/interpreterref03.number -/
def c_interpreterref03_number : MFn := ⟨2, 18, (.seq (.reg [
  ⟨(some 4), none, .mov (.cst (LV.int .i64 0))⟩] []) (.seq (.reg [
  ⟨(some 8), none, .mov (.tmp 0)⟩,
  ⟨(some 9), none, .mov (.tmp 1)⟩,
  ⟨(some 10), none, .build (LV.agg [(LV.str []), (LV.int .i64 0), (LV.int .i64 0), (LV.int .i64 0)]) [(0, (.tmp 8)), (1, (.tmp 9))]⟩,
  ⟨(some 11), none, .boxM (.tmp 10)⟩,
  ⟨(some 5), none, .mov (.tmp 11)⟩] []) (.seq (.reg [
  ⟨(some 13), none, .mov (.tmp 5)⟩,
  ⟨(some 14), none, .callRw id_interpreterref01_Reader_Number [(.tmp 13), (.cst (LV.int .i64 2))]⟩,
  ⟨(some 12), none, .mov (.tmp 14)⟩,
  ⟨(some 15), none, .extract (.tmp 12) 0⟩,
  ⟨(some 16), none, .extract (.tmp 12) 1⟩,
  ⟨(some 6), none, .mov (.tmp 15)⟩,
  ⟨(some 7), none, .mov (.tmp 16)⟩] []) (.seq (.reg [
  ⟨(some 17), none, .mov (.tmp 6)⟩,
  ⟨(some 4), none, .mov (.tmp 17)⟩] []) .ret)))), [.tmp 4]⟩
/-- interpreter/fault.ported -/
def c_fault_ported : MFn := ⟨6, 48, (.seq (.reg [
  ⟨(some 12), none, .mov (.cst (LV.str []))⟩] []) (.seq (.seq (.reg [
  ⟨(some 15), none, .mov (.tmp 1)⟩,
  ⟨(some 16), none, .len true (.tmp 15)⟩,
  ⟨(some 17), none, .bin .lss (.tmp 16) (.cst (LV.int .i64 4))⟩] []) (.cond (.tmp 17) (.seq (.reg [
  ⟨(some 18), none, .mov (.tmp 1)⟩,
  ⟨(some 12), none, .mov (.tmp 18)⟩] []) .ret) .skip)) (.seq (.reg [
  ⟨(some 19), none, .mov (.tmp 4)⟩,
  ⟨(some 20), none, .call id_fault_big [(.tmp 19), (.cst (LV.int .i64 2))]⟩,
  ⟨(some 21), none, .mov (.tmp 5)⟩,
  ⟨(some 22), none, .call id_fault_big [(.tmp 21), (.cst (LV.int .i64 2))]⟩,
  ⟨(some 23), none, .bin .add (.tmp 20) (.tmp 22)⟩,
  ⟨(some 13), none, .mov (.tmp 23)⟩] []) (.seq (.reg [
  ⟨(some 24), none, .mov (.tmp 1)⟩,
  ⟨(some 25), none, .slc 0 (.tmp 24) none (some (.cst (LV.int .i64 4)))⟩,
  ⟨(some 14), none, .mov (.tmp 25)⟩] []) (.seq (.reg [
  ⟨(some 26), none, .mov (.tmp 13)⟩,
  ⟨(some 27), none, .mov (.tmp 1)⟩,
  ⟨(some 28), none, .slc 0 (.tmp 27) (some (.cst (LV.int .i64 4))) none⟩,
  ⟨(some 29), none, .bin .add (.tmp 26) (.tmp 28)⟩,
  ⟨(some 1), none, .mov (.tmp 29)⟩] []) (.seq (.seq (.reg [
  ⟨(some 30), none, .mov (.tmp 0)⟩,
  ⟨(some 31), none, .bin .eql (.tmp 30) (.cst (LV.int .i64 17))⟩] []) (.cond (.tmp 31) (.seq (.reg [
  ⟨(some 32), none, .mov (.tmp 1)⟩,
  ⟨(some 33), none, .mov (.tmp 2)⟩,
  ⟨(some 34), none, .mov (.tmp 14)⟩,
  ⟨(some 35), none, .bin .add (.tmp 33) (.tmp 34)⟩,
  ⟨(some 36), none, .mov (.tmp 3)⟩,
  ⟨(some 37), none, .mov (.tmp 13)⟩,
  ⟨(some 38), none, .bin .add (.tmp 36) (.tmp 37)⟩,
  ⟨(some 39), none, .call id_fault_update [(.tmp 32), (.cst (LV.int .i64 6)), (.tmp 35), (.tmp 38), (.cst (LV.bool true))]⟩,
  ⟨(some 12), none, .mov (.tmp 39)⟩] []) .ret) .skip)) (.seq (.reg [
  ⟨(some 40), none, .mov (.tmp 1)⟩,
  ⟨(some 41), none, .mov (.tmp 2)⟩,
  ⟨(some 42), none, .mov (.tmp 14)⟩,
  ⟨(some 43), none, .bin .add (.tmp 41) (.tmp 42)⟩,
  ⟨(some 44), none, .mov (.tmp 3)⟩,
  ⟨(some 45), none, .mov (.tmp 13)⟩,
  ⟨(some 46), none, .bin .add (.tmp 44) (.tmp 45)⟩,
  ⟨(some 47), none, .call id_fault_update [(.tmp 40), (.cst (LV.int .i64 16)), (.tmp 43), (.tmp 46), (.cst (LV.bool false))]⟩,
  ⟨(some 12), none, .mov (.tmp 47)⟩] []) .ret))))))), [.tmp 12]⟩
/-- interpreter/fault.echoed -/
def c_fault_echoed : MFn := ⟨5, 42, (.seq (.reg [
  ⟨(some 10), none, .mov (.cst (LV.str []))⟩] []) (.seq (.reg [
  ⟨(some 13), none, .mov (.tmp 0)⟩,
  ⟨(some 14), none, .slc 0 (.tmp 13) none (some (.cst (LV.int .i64 2)))⟩,
  ⟨(some 15), none, .mov (.tmp 0)⟩,
  ⟨(some 16), none, .slc 0 (.tmp 15) (some (.cst (LV.int .i64 4))) (some (.cst (LV.int .i64 6)))⟩,
  ⟨(some 17), none, .bin .add (.tmp 14) (.tmp 16)⟩,
  ⟨(some 11), none, .mov (.tmp 17)⟩] []) (.seq (.reg [
  ⟨(some 18), none, .mov (.tmp 3)⟩,
  ⟨(some 19), none, .call id_fault_big [(.tmp 18), (.cst (LV.int .i64 1))]⟩,
  ⟨(some 20), none, .bin .add (.tmp 19) (.cst (LV.str [0]))⟩,
  ⟨(some 12), none, .mov (.tmp 20)⟩] []) (.seq (.reg [
  ⟨(some 21), none, .mov (.tmp 12)⟩,
  ⟨(some 22), none, .mov (.tmp 0)⟩,
  ⟨(some 23), none, .slc 0 (.tmp 22) (some (.cst (LV.int .i64 2))) (some (.cst (LV.int .i64 4)))⟩,
  ⟨(some 24), none, .bin .add (.tmp 21) (.tmp 23)⟩,
  ⟨(some 25), none, .mov (.tmp 4)⟩,
  ⟨(some 26), none, .call id_fault_big [(.tmp 25), (.cst (LV.int .i64 2))]⟩,
  ⟨(some 27), none, .bin .add (.tmp 24) (.tmp 26)⟩,
  ⟨(some 28), none, .mov (.tmp 0)⟩,
  ⟨(some 29), none, .slc 0 (.tmp 28) (some (.cst (LV.int .i64 6))) none⟩,
  ⟨(some 30), none, .bin .add (.tmp 27) (.tmp 29)⟩,
  ⟨(some 0), none, .mov (.tmp 30)⟩] []) (.seq (.reg [
  ⟨(some 31), none, .mov (.tmp 0)⟩,
  ⟨(some 32), none, .mov (.tmp 1)⟩,
  ⟨(some 33), none, .mov (.tmp 11)⟩,
  ⟨(some 34), none, .bin .add (.tmp 32) (.tmp 33)⟩,
  ⟨(some 35), none, .mov (.tmp 2)⟩,
  ⟨(some 36), none, .mov (.tmp 12)⟩,
  ⟨(some 37), none, .bin .add (.tmp 35) (.tmp 36)⟩,
  ⟨(some 38), none, .mov (.tmp 4)⟩,
  ⟨(some 39), none, .call id_fault_big [(.tmp 38), (.cst (LV.int .i64 2))]⟩,
  ⟨(some 40), none, .bin .add (.tmp 37) (.tmp 39)⟩,
  ⟨(some 41), none, .call id_fault_update [(.tmp 31), (.cst (LV.int .i64 2)), (.tmp 34), (.tmp 40), (.cst (LV.bool false))]⟩,
  ⟨(some 10), none, .mov (.tmp 41)⟩] []) .ret))))), [.tmp 10]⟩
/-- (*interpreter/interpreterref01.Reader).Number -/
def c_interpreterref01_Reader_Number : MFn := ⟨2, 31, (.seq (.reg [
  ⟨(some 4), none, .mov (.cst (LV.int .i64 0))⟩,
  ⟨(some 5), none, .mov (.cst (LV.int .i64 0))⟩] []) (.seq (.reg [
  ⟨(some 11), none, .mov (.tmp 0)⟩,
  ⟨(some 12), none, .mov (.tmp 1)⟩,
  ⟨(some 13), none, .callRw id_interpreterref01_Reader_Text [(.tmp 11), (.tmp 12)]⟩,
  ⟨(some 10), none, .mov (.tmp 13)⟩,
  ⟨(some 14), none, .extract (.tmp 10) 0⟩,
  ⟨(some 15), none, .extract (.tmp 10) 1⟩,
  ⟨(some 6), none, .mov (.tmp 14)⟩,
  ⟨(some 7), none, .mov (.tmp 15)⟩] []) (.seq (.reg [
  ⟨(some 8), none, .mov (.cst (LV.int .i64 0))⟩] []) (.seq (.seq (.reg [
  ⟨(some 9), none, .mov (.cst (LV.int .i64 0))⟩] []) (.block 0 (.loop [8, 9] [16, 17, 18, 19, 22, 23, 24, 25, 26, 27, 28, 20, 21] (.seq (.seq (.reg [
  ⟨(some 16), none, .mov (.tmp 9)⟩,
  ⟨(some 17), none, .mov (.tmp 6)⟩,
  ⟨(some 18), none, .len true (.tmp 17)⟩,
  ⟨(some 19), none, .bin .lss (.tmp 16) (.tmp 18)⟩] []) (.cond (.tmp 19) .skip (.exit 0))) (.seq (.block 1 (.reg [
  ⟨(some 22), none, .mov (.tmp 8)⟩,
  ⟨(some 23), none, .bin .mul (.tmp 22) (.cst (LV.int .i64 256))⟩,
  ⟨(some 24), none, .mov (.tmp 6)⟩,
  ⟨(some 25), none, .mov (.tmp 9)⟩,
  ⟨(some 26), none, .idxStr (.tmp 24) (.tmp 25)⟩,
  ⟨(some 27), none, .conv .i64 (.tmp 26)⟩,
  ⟨(some 28), none, .bin .add (.tmp 23) (.tmp 27)⟩,
  ⟨(some 8), none, .mov (.tmp 28)⟩] [])) (.reg [
  ⟨(some 20), none, .mov (.tmp 9)⟩,
  ⟨(some 21), none, .bin .add (.tmp 20) (.cst (LV.int .i64 1))⟩,
  ⟨(some 9), none, .mov (.tmp 21)⟩] [])))))) (.seq (.reg [
  ⟨(some 29), none, .mov (.tmp 8)⟩,
  ⟨(some 30), none, .mov (.tmp 7)⟩,
  ⟨(some 4), none, .mov (.tmp 29)⟩,
  ⟨(some 5), none, .mov (.tmp 30)⟩] []) .ret))))), [.tmp 4, .tmp 5]⟩
/-- interpreter/sum.fold -/
def c_sum_fold : MFn := ⟨1, 11, (.seq (.reg [
  ⟨(some 2), none, .mov (.cst (LV.int .i64 0))⟩] []) (.seq (.block 0 (.loop [0] [3, 4, 5, 6, 7, 8, 9] (.seq (.seq (.reg [
  ⟨(some 3), none, .mov (.tmp 0)⟩,
  ⟨(some 4), none, .bin .gtr (.tmp 3) (.cst (LV.int .i64 65535))⟩] []) (.cond (.tmp 4) .skip (.exit 0))) (.block 1 (.reg [
  ⟨(some 5), none, .mov (.tmp 0)⟩,
  ⟨(some 6), none, .bin .shr (.tmp 5) (.cst (LV.int .u64 16))⟩,
  ⟨(some 7), none, .mov (.tmp 0)⟩,
  ⟨(some 8), none, .bin .and (.tmp 7) (.cst (LV.int .i64 65535))⟩,
  ⟨(some 9), none, .bin .add (.tmp 6) (.tmp 8)⟩,
  ⟨(some 0), none, .mov (.tmp 9)⟩] []))))) (.seq (.reg [
  ⟨(some 10), none, .mov (.tmp 0)⟩,
  ⟨(some 2), none, .mov (.tmp 10)⟩] []) .ret))), [.tmp 2]⟩
/-- interpreter/sum.add -/
def c_sum_add : MFn := ⟨4, 34, (.seq (.reg [
  ⟨(some 8), none, .mov (.cst (LV.int .i64 0))⟩] []) (.seq (.seq (.reg [
  ⟨(some 11), none, .mov (.tmp 2)⟩,
  ⟨(some 12), none, .len true (.tmp 11)⟩,
  ⟨(some 13), none, .mov (.cst (LV.int .i64 0))⟩] []) (.block 0 (.loop [0, 13] [14, 15, 9, 16, 17, 18, 19, 20, 21, 10, 22, 23, 24, 25, 26, 27, 28, 29, 30, 31, 32] (.seq (.reg [
  ⟨(some 14), none, .bin .lss (.tmp 13) (.tmp 12)⟩] []) (.seq (.cond (.tmp 14) .skip (.exit 0)) (.seq (.block 1 (.seq (.reg [
  ⟨(some 15), none, .mov (.tmp 13)⟩,
  ⟨(some 9), none, .mov (.tmp 15)⟩] []) (.seq (.reg [
  ⟨(some 16), none, .mov (.tmp 2)⟩,
  ⟨(some 17), none, .mov (.tmp 9)⟩,
  ⟨(some 18), none, .idxStr (.tmp 16) (.tmp 17)⟩,
  ⟨(some 19), none, .mov (.tmp 3)⟩,
  ⟨(some 20), none, .bin .xor (.tmp 18) (.tmp 19)⟩,
  ⟨(some 21), none, .conv .i64 (.tmp 20)⟩,
  ⟨(some 10), none, .mov (.tmp 21)⟩] []) (.seq (.seq (.reg [
  ⟨(some 22), none, .mov (.tmp 1)⟩,
  ⟨(some 23), none, .mov (.tmp 9)⟩,
  ⟨(some 24), none, .bin .add (.tmp 22) (.tmp 23)⟩,
  ⟨(some 25), none, .bin .rem (.tmp 24) (.cst (LV.int .i64 2))⟩,
  ⟨(some 26), none, .bin .eql (.tmp 25) (.cst (LV.int .i64 0))⟩] []) (.cond (.tmp 26) (.reg [
  ⟨(some 27), none, .mov (.tmp 10)⟩,
  ⟨(some 28), none, .bin .shl (.tmp 27) (.cst (LV.int .u64 8))⟩,
  ⟨(some 10), none, .mov (.tmp 28)⟩] []) .skip)) (.reg [
  ⟨(some 29), none, .mov (.tmp 0)⟩,
  ⟨(some 30), none, .mov (.tmp 10)⟩,
  ⟨(some 31), none, .bin .add (.tmp 29) (.tmp 30)⟩,
  ⟨(some 0), none, .mov (.tmp 31)⟩] []))))) (.reg [
  ⟨(some 32), none, .bin .add (.tmp 13) (.cst (LV.int .i64 1))⟩,
  ⟨(some 13), none, .mov (.tmp 32)⟩] []))))))) (.seq (.reg [
  ⟨(some 33), none, .mov (.tmp 0)⟩,
  ⟨(some 8), none, .mov (.tmp 33)⟩] []) .ret))), [.tmp 8]⟩
/-- interpreter/ip4.byteful -/
def c_ip4_byteful : MFn := ⟨1, 18, (.seq (.reg [
  ⟨(some 2), none, .mov (.cst (LV.bool false))⟩] []) (.seq (.seq (.reg [
  ⟨(some 5), none, .mov (.tmp 0)⟩,
  ⟨(some 6), none, .len false (.tmp 5)⟩,
  ⟨(some 7), none, .mov (.cst (LV.int .i64 0))⟩] []) (.block 0 (.loop [2, 7] [8, 9, 10, 4, 11, 12, 13, 14, 15, 16, 17] (.seq (.reg [
  ⟨(some 8), none, .bin .lss (.tmp 7) (.tmp 6)⟩] []) (.seq (.cond (.tmp 8) .skip (.exit 0)) (.seq (.block 1 (.seq (.reg [
  ⟨(some 9), none, .idxAddr none 1 (.tmp 5) (.tmp 7)⟩,
  ⟨(some 10), none, .load 1 false (.tmp 9)⟩,
  ⟨(some 4), none, .mov (.tmp 10)⟩] []) (.seq (.reg [
  ⟨(some 11), none, .mov (.tmp 4)⟩,
  ⟨(some 12), none, .bin .lss (.tmp 11) (.cst (LV.int .i64 0))⟩,
  ⟨(some 13), none, .mov (.tmp 12)⟩,
  ⟨(some 14), (some (13, false)), .mov (.tmp 4)⟩,
  ⟨(some 15), (some (13, false)), .bin .gtr (.tmp 14) (.cst (LV.int .i64 255))⟩,
  ⟨(some 16), none, .pick (.tmp 13) (.cst (LV.bool true)) (.tmp 15)⟩] []) (.cond (.tmp 16) (.seq (.reg [
  ⟨(some 2), none, .mov (.cst (LV.bool false))⟩] []) .ret) .skip)))) (.reg [
  ⟨(some 17), none, .bin .add (.tmp 7) (.cst (LV.int .i64 1))⟩,
  ⟨(some 7), none, .mov (.tmp 17)⟩] []))))))) (.seq (.reg [
  ⟨(some 2), none, .mov (.cst (LV.bool true))⟩] []) .ret))), [.tmp 2]⟩
/-- interpreter/fault.update -/
def c_fault_update : MFn := ⟨5, 55, (.seq (.reg [
  ⟨(some 10), none, .mov (.cst (LV.str []))⟩] []) (.seq (.seq (.reg [
  ⟨(some 12), none, .mov (.tmp 0)⟩,
  ⟨(some 13), none, .len true (.tmp 12)⟩,
  ⟨(some 14), none, .mov (.tmp 1)⟩,
  ⟨(some 15), none, .bin .add (.tmp 14) (.cst (LV.int .i64 2))⟩,
  ⟨(some 16), none, .bin .lss (.tmp 13) (.tmp 15)⟩] []) (.cond (.tmp 16) (.seq (.reg [
  ⟨(some 17), none, .mov (.tmp 0)⟩,
  ⟨(some 10), none, .mov (.tmp 17)⟩] []) .ret) .skip)) (.seq (.reg [
  ⟨(some 18), none, .mov (.tmp 0)⟩,
  ⟨(some 19), none, .mov (.tmp 1)⟩,
  ⟨(some 20), none, .idxStr (.tmp 18) (.tmp 19)⟩,
  ⟨(some 21), none, .conv .i64 (.tmp 20)⟩,
  ⟨(some 22), none, .bin .shl (.tmp 21) (.cst (LV.int .u64 8))⟩,
  ⟨(some 23), none, .mov (.tmp 0)⟩,
  ⟨(some 24), none, .mov (.tmp 1)⟩,
  ⟨(some 25), none, .bin .add (.tmp 24) (.cst (LV.int .i64 1))⟩,
  ⟨(some 26), none, .idxStr (.tmp 23) (.tmp 25)⟩,
  ⟨(some 27), none, .conv .i64 (.tmp 26)⟩,
  ⟨(some 28), none, .bin .or (.tmp 22) (.tmp 27)⟩,
  ⟨(some 11), none, .mov (.tmp 28)⟩] []) (.seq (.seq (.reg [
  ⟨(some 29), none, .mov (.tmp 4)⟩,
  ⟨(some 30), none, .mov (.tmp 29)⟩,
  ⟨(some 31), (some (30, true)), .mov (.tmp 11)⟩,
  ⟨(some 32), (some (30, true)), .bin .eql (.tmp 31) (.cst (LV.int .i64 0))⟩,
  ⟨(some 33), none, .pick (.tmp 30) (.tmp 32) (.cst (LV.bool false))⟩] []) (.cond (.tmp 33) (.seq (.reg [
  ⟨(some 34), none, .mov (.tmp 0)⟩,
  ⟨(some 10), none, .mov (.tmp 34)⟩] []) .ret) .skip)) (.seq (.reg [
  ⟨(some 35), none, .mov (.tmp 11)⟩,
  ⟨(some 36), none, .mov (.tmp 2)⟩,
  ⟨(some 37), none, .mov (.tmp 3)⟩,
  ⟨(some 38), none, .call id_sum_Update [(.tmp 35), (.tmp 36), (.tmp 37)]⟩,
  ⟨(some 11), none, .mov (.tmp 38)⟩] []) (.seq (.seq (.reg [
  ⟨(some 39), none, .mov (.tmp 4)⟩,
  ⟨(some 40), none, .mov (.tmp 39)⟩,
  ⟨(some 41), (some (40, true)), .mov (.tmp 11)⟩,
  ⟨(some 42), (some (40, true)), .bin .eql (.tmp 41) (.cst (LV.int .i64 0))⟩,
  ⟨(some 43), none, .pick (.tmp 40) (.tmp 42) (.cst (LV.bool false))⟩] []) (.cond (.tmp 43) (.reg [
  ⟨(some 11), none, .mov (.cst (LV.int .i64 65535))⟩] []) .skip)) (.seq (.reg [
  ⟨(some 44), none, .mov (.tmp 0)⟩,
  ⟨(some 45), none, .mov (.tmp 1)⟩,
  ⟨(some 46), none, .slc 0 (.tmp 44) none (some (.tmp 45))⟩,
  ⟨(some 47), none, .mov (.tmp 11)⟩,
  ⟨(some 48), none, .call id_fault_big [(.tmp 47), (.cst (LV.int .i64 2))]⟩,
  ⟨(some 49), none, .bin .add (.tmp 46) (.tmp 48)⟩,
  ⟨(some 50), none, .mov (.tmp 0)⟩,
  ⟨(some 51), none, .mov (.tmp 1)⟩,
  ⟨(some 52), none, .bin .add (.tmp 51) (.cst (LV.int .i64 2))⟩,
  ⟨(some 53), none, .slc 0 (.tmp 50) (some (.tmp 52)) none⟩,
  ⟨(some 54), none, .bin .add (.tmp 49) (.tmp 53)⟩,
  ⟨(some 10), none, .mov (.tmp 54)⟩] []) .ret))))))), [.tmp 10]⟩
/-- (*interpreter/interpreterref01.Reader).Text -/
def c_interpreterref01_Reader_Text : MFn := ⟨2, 92, (.seq (.reg [
  ⟨(some 4), none, .mov (.cst (LV.str []))⟩,
  ⟨(some 5), none, .mov (.cst (LV.int .i64 0))⟩] []) (.seq (.seq (.reg [
  ⟨(some 8), none, .mov (.tmp 0)⟩,
  ⟨(some 9), none, .nilCheck (.tmp 8)⟩,
  ⟨(some 10), none, .fieldAddr 2 2 (.tmp 9)⟩,
  ⟨(some 11), none, .load 1 false (.tmp 10)⟩,
  ⟨(some 12), none, .bin .neq (.tmp 11) (.cst (LV.int .i64 0))⟩] []) (.cond (.tmp 12) (.seq (.reg [
  ⟨(some 13), none, .mov (.tmp 0)⟩,
  ⟨(some 14), none, .nilCheck (.tmp 13)⟩,
  ⟨(some 15), none, .fieldAddr 2 2 (.tmp 14)⟩,
  ⟨(some 16), none, .load 1 false (.tmp 15)⟩,
  ⟨(some 4), none, .mov (.cst (LV.str []))⟩,
  ⟨(some 5), none, .mov (.tmp 16)⟩] []) .ret) .skip)) (.seq (.seq (.reg [
  ⟨(some 17), none, .mov (.tmp 1)⟩,
  ⟨(some 18), none, .bin .lss (.tmp 17) (.cst (LV.int .i64 0))⟩] []) (.cond (.tmp 18) (.reg [
  ⟨(some 19), none, .mov (.tmp 0)⟩,
  ⟨(some 20), none, .nilCheck (.tmp 19)⟩,
  ⟨(some 21), none, .fieldAddr 2 2 (.tmp 20)⟩,
  ⟨none, none, .store 1 false (.tmp 21) (.cst (LV.int .i64 1))⟩] []) (.seq (.reg [
  ⟨(some 22), none, .mov (.tmp 1)⟩,
  ⟨(some 23), none, .mov (.tmp 0)⟩,
  ⟨(some 24), none, .nilCheck (.tmp 23)⟩,
  ⟨(some 25), none, .fieldAddr 0 0 (.tmp 24)⟩,
  ⟨(some 26), none, .load 1 false (.tmp 25)⟩,
  ⟨(some 27), none, .len true (.tmp 26)⟩,
  ⟨(some 28), none, .bin .gtr (.tmp 22) (.tmp 27)⟩,
  ⟨(some 29), none, .mov (.tmp 28)⟩,
  ⟨(some 30), (some (29, false)), .mov (.tmp 0)⟩,
  ⟨(some 31), (some (29, false)), .nilCheck (.tmp 30)⟩,
  ⟨(some 32), (some (29, false)), .fieldAddr 1 1 (.tmp 31)⟩,
  ⟨(some 33), (some (29, false)), .load 1 false (.tmp 32)⟩,
  ⟨(some 34), (some (29, false)), .mov (.tmp 0)⟩,
  ⟨(some 35), (some (29, false)), .nilCheck (.tmp 34)⟩,
  ⟨(some 36), (some (29, false)), .fieldAddr 0 0 (.tmp 35)⟩,
  ⟨(some 37), (some (29, false)), .load 1 false (.tmp 36)⟩,
  ⟨(some 38), (some (29, false)), .len true (.tmp 37)⟩,
  ⟨(some 39), (some (29, false)), .mov (.tmp 1)⟩,
  ⟨(some 40), (some (29, false)), .bin .sub (.tmp 38) (.tmp 39)⟩,
  ⟨(some 41), (some (29, false)), .bin .gtr (.tmp 33) (.tmp 40)⟩,
  ⟨(some 42), none, .pick (.tmp 29) (.cst (LV.bool true)) (.tmp 41)⟩] []) (.cond (.tmp 42) (.reg [
  ⟨(some 43), none, .mov (.tmp 0)⟩,
  ⟨(some 44), none, .nilCheck (.tmp 43)⟩,
  ⟨(some 45), none, .fieldAddr 2 2 (.tmp 44)⟩,
  ⟨none, none, .store 1 false (.tmp 45) (.cst (LV.int .i64 7))⟩] []) .skip)))) (.seq (.seq (.reg [
  ⟨(some 46), none, .mov (.tmp 0)⟩,
  ⟨(some 47), none, .nilCheck (.tmp 46)⟩,
  ⟨(some 48), none, .fieldAddr 2 2 (.tmp 47)⟩,
  ⟨(some 49), none, .load 1 false (.tmp 48)⟩,
  ⟨(some 50), none, .bin .neq (.tmp 49) (.cst (LV.int .i64 0))⟩] []) (.cond (.tmp 50) (.seq (.reg [
  ⟨(some 51), none, .mov (.tmp 0)⟩,
  ⟨(some 52), none, .mov (.tmp 0)⟩,
  ⟨(some 53), none, .nilCheck (.tmp 52)⟩,
  ⟨(some 54), none, .fieldAddr 1 1 (.tmp 53)⟩,
  ⟨(some 55), none, .load 1 false (.tmp 54)⟩,
  ⟨(some 56), none, .nilCheck (.tmp 51)⟩,
  ⟨(some 57), none, .fieldAddr 3 3 (.tmp 56)⟩,
  ⟨none, none, .store 1 false (.tmp 57) (.tmp 55)⟩] []) (.seq (.reg [
  ⟨(some 58), none, .mov (.tmp 0)⟩,
  ⟨(some 59), none, .nilCheck (.tmp 58)⟩,
  ⟨(some 60), none, .fieldAddr 2 2 (.tmp 59)⟩,
  ⟨(some 61), none, .load 1 false (.tmp 60)⟩,
  ⟨(some 4), none, .mov (.cst (LV.str []))⟩,
  ⟨(some 5), none, .mov (.tmp 61)⟩] []) .ret)) .skip)) (.seq (.reg [
  ⟨(some 6), none, .mov (.cst (LV.str []))⟩] []) (.seq (.seq (.reg [
  ⟨(some 7), none, .mov (.cst (LV.int .i64 0))⟩] []) (.block 0 (.loop [6, 7] [62, 63, 64, 67, 68, 69, 70, 71, 72, 73, 74, 75, 76, 77, 78, 79, 80, 81, 82, 83, 84, 85, 86, 87, 88, 89, 90, 65, 66] (.seq (.seq (.reg [
  ⟨(some 62), none, .mov (.tmp 7)⟩,
  ⟨(some 63), none, .mov (.tmp 1)⟩,
  ⟨(some 64), none, .bin .lss (.tmp 62) (.tmp 63)⟩] []) (.cond (.tmp 64) .skip (.exit 0))) (.seq (.block 1 (.seq (.reg [
  ⟨(some 67), none, .mov (.tmp 6)⟩,
  ⟨(some 68), none, .mov (.tmp 0)⟩,
  ⟨(some 69), none, .nilCheck (.tmp 68)⟩,
  ⟨(some 70), none, .fieldAddr 0 0 (.tmp 69)⟩,
  ⟨(some 71), none, .load 1 false (.tmp 70)⟩,
  ⟨(some 72), none, .mov (.tmp 0)⟩,
  ⟨(some 73), none, .nilCheck (.tmp 72)⟩,
  ⟨(some 74), none, .fieldAddr 1 1 (.tmp 73)⟩,
  ⟨(some 75), none, .load 1 false (.tmp 74)⟩,
  ⟨(some 76), none, .mov (.tmp 0)⟩,
  ⟨(some 77), none, .nilCheck (.tmp 76)⟩,
  ⟨(some 78), none, .fieldAddr 1 1 (.tmp 77)⟩,
  ⟨(some 79), none, .load 1 false (.tmp 78)⟩,
  ⟨(some 80), none, .bin .add (.tmp 79) (.cst (LV.int .i64 1))⟩,
  ⟨(some 81), none, .slc 0 (.tmp 71) (some (.tmp 75)) (some (.tmp 80))⟩,
  ⟨(some 82), none, .bin .add (.tmp 67) (.tmp 81)⟩,
  ⟨(some 6), none, .mov (.tmp 82)⟩] []) (.reg [
  ⟨(some 83), none, .mov (.tmp 0)⟩,
  ⟨(some 84), none, .mov (.tmp 0)⟩,
  ⟨(some 85), none, .nilCheck (.tmp 84)⟩,
  ⟨(some 86), none, .fieldAddr 1 1 (.tmp 85)⟩,
  ⟨(some 87), none, .load 1 false (.tmp 86)⟩,
  ⟨(some 88), none, .bin .add (.tmp 87) (.cst (LV.int .i64 1))⟩,
  ⟨(some 89), none, .nilCheck (.tmp 83)⟩,
  ⟨(some 90), none, .fieldAddr 1 1 (.tmp 89)⟩,
  ⟨none, none, .store 1 false (.tmp 90) (.tmp 88)⟩] []))) (.reg [
  ⟨(some 65), none, .mov (.tmp 7)⟩,
  ⟨(some 66), none, .bin .add (.tmp 65) (.cst (LV.int .i64 1))⟩,
  ⟨(some 7), none, .mov (.tmp 66)⟩] [])))))) (.seq (.reg [
  ⟨(some 91), none, .mov (.tmp 6)⟩,
  ⟨(some 4), none, .mov (.tmp 91)⟩,
  ⟨(some 5), none, .mov (.cst (LV.int .i64 0))⟩] []) .ret))))))), [.tmp 4, .tmp 5]⟩
/-- interpreter/sum.Update -/
def c_sum_Update : MFn := ⟨3, 21, (.seq (.reg [
  ⟨(some 6), none, .mov (.cst (LV.int .i64 0))⟩] []) (.seq (.reg [
  ⟨(some 8), none, .mov (.tmp 0)⟩,
  ⟨(some 9), none, .bin .and (.tmp 8) (.cst (LV.int .i64 65535))⟩,
  ⟨(some 10), none, .bin .sub (.cst (LV.int .i64 65535)) (.tmp 9)⟩,
  ⟨(some 7), none, .mov (.tmp 10)⟩] []) (.seq (.reg [
  ⟨(some 11), none, .mov (.tmp 7)⟩,
  ⟨(some 12), none, .mov (.tmp 1)⟩,
  ⟨(some 13), none, .call id_sum_even [(.tmp 12)]⟩,
  ⟨(some 14), none, .call id_sum_add [(.tmp 11), (.cst (LV.int .i64 0)), (.tmp 13), (.cst (LV.int .u8 255))]⟩,
  ⟨(some 15), none, .call id_sum_fold [(.tmp 14)]⟩,
  ⟨(some 7), none, .mov (.tmp 15)⟩] []) (.seq (.reg [
  ⟨(some 16), none, .mov (.tmp 7)⟩,
  ⟨(some 17), none, .mov (.tmp 2)⟩,
  ⟨(some 18), none, .call id_sum_add [(.tmp 16), (.cst (LV.int .i64 0)), (.tmp 17), (.cst (LV.int .u8 0))]⟩,
  ⟨(some 19), none, .call id_sum_fold [(.tmp 18)]⟩,
  ⟨(some 20), none, .bin .sub (.cst (LV.int .i64 65535)) (.tmp 19)⟩,
  ⟨(some 6), none, .mov (.tmp 20)⟩] []) .ret)))), [.tmp 6]⟩
/-- interpreter/sum.even -/
def c_sum_even : MFn := ⟨1, 10, (.seq (.reg [
  ⟨(some 2), none, .mov (.cst (LV.str []))⟩] []) (.seq (.seq (.reg [
  ⟨(some 3), none, .mov (.tmp 0)⟩,
  ⟨(some 4), none, .len true (.tmp 3)⟩,
  ⟨(some 5), none, .bin .rem (.tmp 4) (.cst (LV.int .i64 2))⟩,
  ⟨(some 6), none, .bin .eql (.tmp 5) (.cst (LV.int .i64 1))⟩] []) (.cond (.tmp 6) (.reg [
  ⟨(some 7), none, .mov (.tmp 0)⟩,
  ⟨(some 8), none, .bin .add (.tmp 7) (.cst (LV.str [0]))⟩,
  ⟨(some 0), none, .mov (.tmp 8)⟩] []) .skip)) (.seq (.reg [
  ⟨(some 9), none, .mov (.tmp 0)⟩,
  ⟨(some 2), none, .mov (.tmp 9)⟩] []) .ret))), [.tmp 2]⟩

end Go.Ev
