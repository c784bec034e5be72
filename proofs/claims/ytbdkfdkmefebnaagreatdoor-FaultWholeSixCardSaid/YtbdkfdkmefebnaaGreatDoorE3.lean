/- Part 3 of a proof: what the functions yield. It stands by itself; no condition. -/
import Derived.Test.YtbdkfdkmefebnaaGreatDoorE0
namespace Go.Ev.Q
abbrev T (n : Nat) : Opd := .tmp n
abbrev I (n : Int) : Opd := .cst (.int .i64 n)
abbrev A (d : Nat) (o : MOp) : MOper := ⟨some d, none, o⟩
abbrev B (o : MOp) : MOper := ⟨none, none, o⟩
abbrev W (d t : Nat) (w : Bool) (o : MOp) : MOper := ⟨some d, some (t, w), o⟩
abbrev fa (d a b t : Nat) : MOper := ⟨some d, none, .fieldAddr a b (.tmp t)⟩
abbrev ld (d t : Nat) : MOper := ⟨some d, none, .load 1 false (.tmp t)⟩
abbrev xt (d t i : Nat) : MOper := ⟨some d, none, .extract (.tmp t) i⟩
abbrev bI (d : Nat) (o : BinOp) (t : Nat) (n : Int) : MOper := ⟨some d, none, .bin o (.tmp t) (I n)⟩
abbrev bT (d : Nat) (o : BinOp) (t u : Nat) : MOper := ⟨some d, none, .bin o (.tmp t) (.tmp u)⟩
abbrev mv (d t : Nat) : MOper := ⟨some d, none, .mov (.tmp t)⟩
abbrev mI (d : Nat) (n : Int) : MOper := ⟨some d, none, .mov (I n)⟩
abbrev wf (d t : Nat) (w : Bool) (a b x : Nat) : MOper := ⟨some d, some (t, w), .fieldAddr a b (.tmp x)⟩
abbrev wl (d t : Nat) (w : Bool) (x : Nat) : MOper := ⟨some d, some (t, w), .load 1 false (.tmp x)⟩
abbrev wm (d t : Nat) (w : Bool) (x : Nat) : MOper := ⟨some d, some (t, w), .mov (.tmp x)⟩
abbrev kT (d t x : Nat) : MOper := ⟨some d, none, .pick (.tmp t) (.tmp x) (.cst (.bool false))⟩
abbrev kF (d t x : Nat) : MOper := ⟨some d, none, .pick (.tmp t) (.cst (.bool true)) (.tmp x)⟩
abbrev lg (d t : Nat) : MOper := ⟨some d, none, .len true (.tmp t)⟩
abbrev R (l : List MOper) (p : List (Opd × Opd) := []) : MCode := .reg l p
abbrev C (t : Nat) (a b : MCode) : MCode := .cond (.tmp t) a b
end Go.Ev.Q
open Go.Ev.Q
namespace Go.Ev
set_option linter.unusedVariables false
set_option maxRecDepth 100000
def id_interpreterlaw15_FaultWholeSix : Nat := 4
def id_interpreterlaw15_awake : Nat := 5
def id_fault_Inside4 : Nat := 6
def id_fault_Quote6 : Nat := 7
def id_num_Code : Nat := 8
def id_ip6_Parse : Nat := 9
def id_tcp_Check : Nat := 10
def id_sum_Pseudo4 : Nat := 11
def id_sum_Pseudo6 : Nat := 12
def id_udp_Check : Nat := 13
def id_icmp4_Parse : Nat := 14
def id_icmp4_Echo : Nat := 15
def id_icmp6_Parse : Nat := 16
def id_icmp6_Echo : Nat := 17
def id_fault_Inside6 : Nat := 18
def id_interpreterref04_Same : Nat := 19
def id_fault_Quote4 : Nat := 20
def id_ip4_Parse : Nat := 21
def id_interpreterlaw15_bare : Nat := 22
def id_interpreterref03_Bytes : Nat := 23
def id_interpreterlaw15_gram : Nat := 24
def id_fault_Own4 : Nat := 25
def id_interpreterref03_Parse : Nat := 26
def id_fault_fault : Nat := 27
def id_sum_Right : Nat := 28
def id_fault_Inside4_1 : Nat := 29
def id_fault_short : Nat := 30
def id_head46_Proto : Nat := 31
def id_fault_within : Nat := 32
def id_fault_big : Nat := 33
def id_fault_turn6 : Nat := 34
def id_ip6_fault : Nat := 36
def id_num_New : Nat := 37
def id_num_Reader_U32 : Nat := 38
def id_ip6_Chain : Nat := 39
def id_ip6_pieced : Nat := 40
def id_tcp_Parse : Nat := 41
def id_tcp_fault : Nat := 42
def id_sum_big : Nat := 43
def id_udp_Parse : Nat := 44
def id_udp_fault : Nat := 45
def id_icmp4_fault : Nat := 46
def id_icmp6_fault : Nat := 47
def id_head64_Proto : Nat := 48
def id_sum_Of : Nat := 49
def id_fault_turn4 : Nat := 50
def id_ip4_fault : Nat := 51
def id_ip4_Parse_1 : Nat := 52
def id_ip4_why : Nat := 53
def id_interpreterref03_Why : Nat := 54
def id_interpreterref02_Of : Nat := 55
def id_strings_Repeat : Nat := 56
def id_icmp4_Failure : Nat := 57
def id_class_Martian4 : Nat := 58
def id_fault_beginning : Nat := 59
def id_icmp4_Bytes : Nat := 60
def id_ip4_Bytes : Nat := 61
def id_interpreterref03_number : Nat := 62
def id_num_Big : Nat := 63
def id_fault_ported : Nat := 64
def id_fault_echoed : Nat := 65
def id_num_Reader_number : Nat := 70
def id_ip6_extends : Nat := 71
def id_tcp_two : Nat := 72
def id_udp_two : Nat := 73
def id_sum_fold : Nat := 74
def id_sum_add : Nat := 75
def id_ip4_byteful : Nat := 76
def id_interpreterref03_within : Nat := 77
def id_interpreterref02_Total : Nat := 78
def id_interpreterref02_Words : Nat := 79
def id_ip4_big : Nat := 86
def id_interpreterref01_Reader_Number : Nat := 87
def id_fault_update : Nat := 88
def id_num_Reader_Text : Nat := 92
def id_interpreterref01_Reader_Text : Nat := 98
def id_sum_Update : Nat := 99
def id_sum_even : Nat := 102
def ty_bool : Nat := 4
def ty_ptr_num_Fault : Nat := 85
def c_interpreterlaw15_FaultWholeSix : MFn := ⟨5, 258, (.seq (R [
 A 6 (.box (T 1)),
 A 7 (.box (T 2)),
 A 10 (.mov (.cst (LV.bool false)))]) (.seq (.seq (R [
 A 28 (.call id_interpreterlaw15_awake []),
 A 29 (.un .not (T 28))]) (C 29 (.seq (R [
 A 10 (.mov (.cst (LV.bool false)))]) .ret) .skip)) (.seq (.seq (R [
 mv 30 0,
 lg 31 30,
 bI 32 .gtr 31 70000]) (C 32 (.seq (R [
 A 10 (.mov (.cst (LV.bool true)))]) .ret) .skip)) (.seq (R [
 mv 34 0,
 A 35 (.call id_fault_Inside6 [(T 34)]),
 mv 33 35,
 xt 36 33 0,
 xt 37 33 1,
 xt 38 33 2,
 A 11 (.alloc (LV.agg [(LV.int .i64 0), (LV.int .i64 0), (LV.int .i64 0), (LV.bytes [0, 0, 0, 0, 0, 0, 0, 0, 0, 0, 0, 0, 0, 0, 0, 0]), (LV.bytes [0, 0, 0, 0, 0, 0, 0, 0, 0, 0, 0, 0, 0, 0, 0, 0]), LV.nils, (LV.bool false), (LV.int .u32 0), (LV.int .i64 0), (LV.bool false), (LV.int .i64 0), (LV.str [])])),
 B (.store 42 true (T 11) (T 36)),
 mv 12 37,
 mv 13 38]) (.seq (.seq (R [
 mv 39 13,
 A 40 (.eqNil 1 true (T 39)),
 mv 41 40,
 wm 42 41 false 12,
 wf 43 41 false 11 41 11,
 wl 44 41 false 43,
 W 45 41 false (.len true (T 44)),
 W 46 41 false (.bin .neq (T 42) (T 45)),
 kF 47 41 46]) (C 47 (.seq (R [
 mv 48 13,
 A 49 (.eqNil 1 false (T 48)),
 mv 50 49,
 wm 51 50 false 12,
 W 52 50 false (.bin .eql (T 51) (I 0)),
 wm 53 50 false 52,
 W 54 53 true (.load 42 true (T 11)),
 W 55 53 true (.build (LV.agg [(LV.int .i64 0), (LV.int .i64 0), (LV.int .i64 0), (LV.bytes [0, 0, 0, 0, 0, 0, 0, 0, 0, 0, 0, 0, 0, 0, 0, 0]), (LV.bytes [0, 0, 0, 0, 0, 0, 0, 0, 0, 0, 0, 0, 0, 0, 0, 0]), LV.nils, (LV.bool false), (LV.int .u32 0), (LV.int .i64 0), (LV.bool false), (LV.int .i64 0), (LV.str [])]) []),
 W 56 53 true (.call id_interpreterref04_Same [(T 54), (T 55)]),
 W 57 50 false (.pick (T 53) (T 56) (.cst (LV.bool false))),
 kF 58 50 57,
 mv 10 58]) .ret) .skip)) (.seq (R [
 A 60 (.load 42 true (T 11)),
 mv 61 12,
 A 62 (.load 4 true (T 6)),
 mv 63 3,
 A 64 (.conv .i64 (T 63)),
 A 65 (.build (LV.agg [(LV.bytes [0, 0, 0, 0]), (LV.int .i64 0)]) [(0, (T 62)), (1, (T 64))]),
 A 66 (.load 4 true (T 7)),
 mv 67 4,
 A 68 (.conv .i64 (T 67)),
 A 69 (.build (LV.agg [(LV.bytes [0, 0, 0, 0]), (LV.int .i64 0)]) [(0, (T 66)), (1, (T 68))]),
 A 70 (.call id_fault_Quote4 [(T 60), (T 61), (T 65), (T 69)]),
 mv 59 70,
 xt 71 59 0,
 xt 72 59 1,
 mv 14 71,
 mv 15 72]) (.seq (.seq (R [
 mv 73 15,
 A 74 (.eqNil 1 true (T 73))]) (C 74 (.seq (R [
 mv 75 14,
 A 76 (.bin .eql (T 75) (.cst (LV.str []))),
 mv 77 76,
 wm 78 77 true 15,
 W 79 77 true (.call id_num_Code [(T 78)]),
 W 80 77 true (.bin .neq (T 79) (I 0)),
 kT 81 77 80,
 mv 10 81]) .ret) .skip)) (.seq (.seq (R [
 fa 82 9 39 11,
 ld 83 82,
 mv 84 83,
 wf 85 84 false 8 38 11,
 wl 86 84 false 85,
 W 87 84 false (.bin .gtr (T 86) (I 0)),
 kF 88 84 87]) (C 88 (.seq (R [
 mv 89 14,
 lg 90 89,
 mv 91 12,
 A 92 (.bin .add (I 20) (T 91)),
 bT 93 .eql 90 92,
 mv 10 93]) .ret) .skip)) (.seq (R [
 mv 95 14,
 A 96 (.call id_ip4_Parse [(T 95)]),
 mv 94 96,
 xt 97 94 0,
 xt 98 94 1,
 A 16 (.alloc (LV.agg [(LV.int .i64 0), (LV.int .i64 0), (LV.int .i64 0), (LV.int .i64 0), (LV.int .i64 0), (LV.bool false), (LV.bool false), (LV.bytes [0, 0, 0, 0]), (LV.bytes [0, 0, 0, 0]), (LV.str []), (LV.str [])])),
 B (.store 17 true (T 16) (T 97)),
 mv 17 98]) (.seq (.seq (R [
 mv 99 17,
 A 100 (.eqNil 1 true (T 99)),
 mv 101 100,
 wf 102 101 false 7 7 16,
 W 103 101 false (.load 4 true (T 102)),
 W 104 101 false (.load 4 true (T 6)),
 W 105 101 false (.eqS (Sh.bytes 4) true (T 103) (T 104)),
 kF 106 101 105,
 mv 107 106,
 wf 108 107 false 8 11 16,
 W 109 107 false (.load 4 true (T 108)),
 W 110 107 false (.load 4 true (T 7)),
 W 111 107 false (.eqS (Sh.bytes 4) true (T 109) (T 110)),
 kF 112 107 111,
 mv 113 112,
 wf 114 113 false 10 16 16,
 wl 115 113 false 114,
 W 116 113 false (.len true (T 115)),
 wm 117 113 false 12,
 W 118 113 false (.bin .neq (T 116) (T 117)),
 kF 119 113 118,
 mv 120 119,
 wf 121 120 false 2 2 16,
 wl 122 120 false 121,
 wf 123 120 false 2 2 11,
 wl 124 120 false 123,
 W 125 120 false (.bin .neq (T 122) (T 124)),
 kF 126 120 125,
 mv 127 126,
 wf 128 127 false 0 0 16,
 wl 129 127 false 128,
 wf 130 127 false 0 0 11,
 wl 131 127 false 130,
 W 132 127 false (.bin .neq (T 129) (T 131)),
 kF 133 127 132]) (C 133 (.seq (R [
 A 10 (.mov (.cst (LV.bool false)))]) .ret) .skip)) (.seq (.seq (R [
 fa 134 10 40 11,
 ld 135 134]) (.block 0 (.seq (R [
 bI 137 .eql 135 6,
 mv 136 137]) (C 136 (.seq (R [
 fa 138 11 41 11,
 ld 139 138,
 fa 140 3 3 11,
 A 141 (.load 16 true (T 140)),
 fa 142 4 19 11,
 A 143 (.load 16 true (T 142)),
 mv 144 12,
 A 145 (.call id_sum_Pseudo6 [(T 141), (T 143), (I 6), (T 144)]),
 A 146 (.call id_tcp_Check [(T 139), (T 145)]),
 A 147 (.eqNil 1 true (T 146)),
 mv 148 147,
 wf 149 148 false 10 16 16,
 wl 150 148 false 149,
 W 151 148 false (.load 4 true (T 6)),
 W 152 148 false (.load 4 true (T 7)),
 wm 153 148 false 12,
 W 154 148 false (.call id_sum_Pseudo4 [(T 151), (T 152), (I 6), (T 153)]),
 W 155 148 false (.call id_tcp_Check [(T 150), (T 154)]),
 W 156 148 false (.eqNil 1 false (T 155)),
 kF 157 148 156,
 mv 10 157]) .ret) (.seq (R [
 bI 159 .eql 135 17,
 mv 158 159]) (C 158 (.seq (R [
 fa 160 11 41 11,
 ld 161 160,
 fa 162 3 3 11,
 A 163 (.load 16 true (T 162)),
 fa 164 4 19 11,
 A 165 (.load 16 true (T 164)),
 mv 166 12,
 A 167 (.call id_sum_Pseudo6 [(T 163), (T 165), (I 17), (T 166)]),
 A 168 (.call id_udp_Check [(T 161), (T 167)]),
 A 169 (.eqNil 1 true (T 168)),
 mv 170 169,
 wf 171 170 false 10 16 16,
 wl 172 170 false 171,
 W 173 170 false (.load 4 true (T 6)),
 W 174 170 false (.load 4 true (T 7)),
 wm 175 170 false 12,
 W 176 170 false (.call id_sum_Pseudo4 [(T 173), (T 174), (I 17), (T 175)]),
 W 177 170 false (.call id_udp_Check [(T 172), (T 176)]),
 W 178 170 false (.eqNil 1 false (T 177)),
 kF 179 170 178,
 mv 10 179]) .ret) (.seq (R [
 bI 181 .eql 135 58,
 mv 180 181]) (C 180 (.seq (R [
 fa 183 11 41 11,
 ld 184 183,
 fa 185 3 3 11,
 A 186 (.load 16 true (T 185)),
 fa 187 4 19 11,
 A 188 (.load 16 true (T 187)),
 mv 189 12,
 A 190 (.call id_sum_Pseudo6 [(T 186), (T 188), (I 58), (T 189)]),
 A 191 (.call id_icmp6_Parse [(T 184), (T 190)]),
 mv 182 191,
 xt 192 182 0,
 xt 193 182 1,
 A 18 (.alloc (LV.agg [(LV.int .i64 0), (LV.int .i64 0), (LV.int .u32 0), (LV.str [])])),
 B (.store 4 true (T 18) (T 192)),
 mv 19 193]) (.seq (R [
 A 195 (.load 4 true (T 18)),
 A 196 (.call id_icmp6_Echo [(T 195)]),
 mv 194 196,
 xt 197 194 0,
 xt 198 194 1,
 xt 199 194 2,
 mv 20 197,
 mv 21 198,
 mv 22 199]) (.seq (.seq (R [
 mv 200 19,
 A 201 (.eqNil 1 true (T 200))]) (C 201 (.seq (R [
 A 10 (.mov (.cst (LV.bool true)))]) .ret) .skip)) (.seq (.seq (R [
 mv 202 22,
 A 203 (.un .not (T 202))]) (C 203 (.seq (R [
 fa 204 10 16 16,
 ld 205 204,
 fa 206 11 41 11,
 ld 207 206,
 bT 208 .eql 205 207,
 mv 10 208]) .ret) .skip)) (.seq (.seq (R [
 fa 209 10 16 16,
 ld 210 209,
 A 211 (.call id_interpreterlaw15_bare [(T 210)])]) (C 211 (.seq (R [
 mv 212 21,
 A 213 (.un .not (T 212)),
 mv 214 213,
 wm 215 214 true 3,
 W 216 214 true (.bin .eql (T 215) (.cst (LV.int .u16 0))),
 kT 217 214 216,
 mv 10 217]) .ret) .skip)) (.seq (R [
 fa 219 10 16 16,
 ld 220 219,
 A 221 (.call id_icmp4_Parse [(T 220)]),
 mv 218 221,
 xt 222 218 0,
 xt 223 218 1,
 A 23 (.alloc (LV.agg [(LV.int .i64 0), (LV.int .i64 0), (LV.int .u32 0), (LV.str [])])),
 B (.store 4 true (T 23) (T 222)),
 mv 24 223]) (.seq (R [
 A 225 (.load 4 true (T 23)),
 A 226 (.call id_icmp4_Echo [(T 225)]),
 mv 224 226,
 xt 227 224 0,
 xt 228 224 1,
 xt 229 224 2,
 mv 25 227,
 mv 26 228,
 mv 27 229]) (.seq (R [
 mv 230 24,
 A 231 (.eqNil 1 false (T 230)),
 mv 232 231,
 wm 233 232 true 27,
 kT 234 232 233,
 mv 235 234,
 wm 236 235 true 26,
 wm 237 235 true 21,
 W 238 235 true (.eqB false (T 236) (T 237)),
 kT 239 235 238,
 mv 240 239,
 wm 241 240 true 25,
 wm 242 240 true 3,
 W 243 240 true (.conv .i64 (T 242)),
 W 244 240 true (.bin .eql (T 241) (T 243)),
 kT 245 240 244,
 mv 246 245,
 wf 247 246 true 3 3 23,
 wl 248 246 true 247,
 wf 249 246 true 3 3 18,
 wl 250 246 true 249,
 W 251 246 true (.bin .eql (T 248) (T 250)),
 kT 252 246 251,
 mv 10 252]) .ret)))))))) .skip)))))))) (.seq (R [
 fa 253 10 16 16,
 ld 254 253,
 fa 255 11 41 11,
 ld 256 255,
 bT 257 .eql 254 256,
 mv 10 257]) .ret)))))))))))), [.tmp 10]⟩
def c_interpreterlaw15_awake : MFn := ⟨0, 108, (.seq (R [
 A 0 (.mov (.cst (LV.bool false)))]) (.seq (R [
 A 13 (.call id_interpreterlaw15_gram [(I 600)]),
 A 14 (.call id_interpreterref03_Bytes [(T 13)]),
 mv 12 14,
 xt 15 12 0,
 xt 16 12 1,
 mv 1 15,
 mv 2 16]) (.seq (R [
 A 18 (.build (LV.agg [(LV.int .i64 0), (LV.int .i64 0), (LV.int .u32 0), (LV.str [])]) [(0, (I 11))]),
 mv 19 1,
 A 20 (.build (LV.bytes [0, 0, 0, 0]) [(0, (.cst (LV.int .u8 192))), (1, (.cst (LV.int .u8 0))), (2, (.cst (LV.int .u8 2))), (3, (.cst (LV.int .u8 9)))]),
 A 21 (.call id_fault_Own4 [(T 18), (T 19), (T 20), (I 5), (I 1500)]),
 mv 17 21,
 xt 22 17 0,
 xt 23 17 1,
 mv 3 22,
 mv 4 23]) (.seq (R [
 mv 25 3,
 A 26 (.call id_interpreterref03_Parse [(T 25)]),
 mv 24 26,
 xt 27 24 0,
 xt 28 24 1,
 A 5 (.alloc (LV.agg [(LV.int .i64 0), (LV.int .i64 0), (LV.int .i64 0), (LV.int .i64 0), (LV.int .i64 0), (LV.bool false), (LV.bool false), (LV.bytes [0, 0, 0, 0]), (LV.bytes [0, 0, 0, 0]), (LV.str []), (LV.str [])])),
 B (.store 17 true (T 5) (T 27)),
 mv 6 28]) (.seq (.seq (R [
 mv 29 4,
 A 30 (.un .not (T 29)),
 mv 31 30,
 wm 32 31 false 6,
 W 33 31 false (.bin .neq (T 32) (I 0)),
 kF 34 31 33,
 mv 35 34,
 wm 36 35 false 3,
 W 37 35 false (.len true (T 36)),
 W 38 35 false (.bin .neq (T 37) (I 576)),
 kF 39 35 38,
 mv 40 39,
 wf 41 40 false 8 11 5,
 W 42 40 false (.load 4 true (T 41)),
 W 43 40 false (.call id_interpreterlaw15_gram [(I 0)]),
 W 44 40 false (.field 7 7 4 true (T 43)),
 W 45 40 false (.eqS (Sh.bytes 4) true (T 42) (T 44)),
 kF 46 40 45,
 mv 47 46,
 wf 48 47 false 3 3 5,
 wl 49 47 false 48,
 W 50 47 false (.bin .neq (T 49) (I 1)),
 kF 51 47 50,
 mv 52 51,
 wf 53 52 false 10 16 5,
 wl 54 52 false 53,
 W 55 52 false (.len true (T 54)),
 W 56 52 false (.bin .lss (T 55) (I 8)),
 kF 57 52 56,
 mv 58 57,
 wf 59 58 false 10 16 5,
 wl 60 58 false 59,
 W 61 58 false (.slc 0 (T 60) (some (I 8)) none),
 wm 62 58 false 1,
 W 63 58 false (.slc 0 (T 62) none (some (I 548))),
 W 64 58 false (.bin .neq (T 61) (T 63)),
 kF 65 58 64]) (C 65 (.seq (R [
 A 0 (.mov (.cst (LV.bool false)))]) .ret) .skip)) (.seq (R [
 fa 67 10 16 5,
 ld 68 67,
 A 69 (.slc 0 (T 68) (some (I 8)) none),
 A 70 (.call id_fault_Inside4 [(T 69)]),
 mv 66 70,
 xt 71 66 0,
 xt 72 66 1,
 xt 73 66 2,
 A 7 (.alloc (LV.agg [(LV.int .i64 0), (LV.int .i64 0), (LV.int .i64 0), (LV.int .i64 0), (LV.int .i64 0), (LV.bool false), (LV.bool false), (LV.bytes [0, 0, 0, 0]), (LV.bytes [0, 0, 0, 0]), (LV.str []), (LV.str [])])),
 B (.store 17 true (T 7) (T 71)),
 mv 8 72,
 mv 9 73]) (.seq (R [
 A 75 (.load 17 true (T 7)),
 mv 76 8,
 A 77 (.build (LV.agg [(LV.bytes [0, 0, 0, 0, 0, 0, 0, 0, 0, 0, 0, 0, 0, 0, 0, 0]), (LV.int .i64 0)]) [(1, (I 1))]),
 A 78 (.build (LV.agg [(LV.bytes [0, 0, 0, 0, 0, 0, 0, 0, 0, 0, 0, 0, 0, 0, 0, 0]), (LV.int .i64 0)]) [(1, (I 2))]),
 A 79 (.call id_fault_Quote6 [(T 75), (T 76), (T 77), (T 78)]),
 mv 74 79,
 xt 80 74 0,
 xt 81 74 1,
 mv 10 80,
 mv 11 81]) (.seq (R [
 mv 82 9,
 A 83 (.eqNil 1 false (T 82)),
 mv 84 83,
 wm 85 84 true 8,
 W 86 84 true (.bin .eql (T 85) (I 600)),
 kT 87 84 86,
 mv 88 87,
 wf 89 88 true 10 16 7,
 wl 90 88 true 89,
 W 91 88 true (.len true (T 90)),
 W 92 88 true (.bin .eql (T 91) (I 528)),
 kT 93 88 92,
 mv 94 93,
 wm 95 94 true 11,
 W 96 94 true (.eqNil 1 false (T 95)),
 kT 97 94 96,
 mv 98 97,
 wm 99 98 true 10,
 W 100 98 true (.len true (T 99)),
 W 101 98 true (.bin .eql (T 100) (I 568)),
 kT 102 98 101,
 mv 103 102,
 wm 104 103 true 10,
 W 105 103 true (.slc 0 (T 104) (some (I 40)) (some (I 44))),
 W 106 103 true (.bin .eql (T 105) (.cst (LV.str [0, 1, 0, 2]))),
 kT 107 103 106,
 mv 0 107]) .ret)))))))), [.tmp 0]⟩
def c_fault_Inside4 : MFn := ⟨1, 123, (.seq (R [
 A 1 (.box (T 0)),
 A 2 (.alloc (LV.agg [(LV.int .i64 0), (LV.int .i64 0), (LV.int .i64 0), (LV.int .i64 0), (LV.int .i64 0), (LV.bool false), (LV.bool false), (LV.bytes [0, 0, 0, 0]), (LV.bytes [0, 0, 0, 0]), (LV.str []), (LV.str [])])),
 mI 3 0,
 A 4 (.mov (.cst LV.nili))]) (.seq (.seq (R [
 ld 10 1,
 lg 11 10,
 bI 12 .lss 11 20]) (C 12 (.seq (R [
 A 13 (.load 17 true (T 2)),
 A 14 (.call id_fault_fault [(I 7)]),
 B (.store 17 true (T 2) (T 13)),
 mI 3 0,
 mv 4 14]) .ret) .skip)) (.seq (R [
 ld 15 1,
 A 16 (.idxStr (T 15) (I 0)),
 A 17 (.bin .and (T 16) (.cst (LV.int .u8 15))),
 A 18 (.conv .i64 (T 17)),
 bI 19 .mul 18 4,
 mv 5 19]) (.seq (.block 0 (.seq (R [
 ld 21 1,
 A 22 (.idxStr (T 21) (I 0)),
 A 23 (.bin .shr (T 22) (.cst (LV.int .u64 4))),
 A 24 (.bin .neq (T 23) (.cst (LV.int .u8 4))),
 mv 25 24,
 wm 26 25 false 5,
 W 27 25 false (.bin .lss (T 26) (I 20)),
 kF 28 25 27,
 mv 20 28]) (C 20 (.seq (R [
 A 29 (.load 17 true (T 2)),
 A 30 (.call id_fault_fault [(I 8)]),
 B (.store 17 true (T 2) (T 29)),
 mI 3 0,
 mv 4 30]) .ret) (.seq (R [
 ld 32 1,
 lg 33 32,
 mv 34 5,
 bT 35 .lss 33 34,
 mv 31 35]) (C 31 (.seq (R [
 A 36 (.load 17 true (T 2)),
 A 37 (.call id_fault_fault [(I 7)]),
 B (.store 17 true (T 2) (T 36)),
 mI 3 0,
 mv 4 37]) .ret) (.seq (R [
 ld 39 1,
 mv 40 5,
 A 41 (.slc 0 (T 39) none (some (T 40))),
 A 42 (.bsl (LV.str []) 1 [(0, (T 41))]),
 A 43 (.call id_sum_Right [(T 42)]),
 A 44 (.un .not (T 43)),
 mv 38 44]) (C 38 (.seq (R [
 A 45 (.load 17 true (T 2)),
 A 46 (.call id_fault_fault [(I 9)]),
 B (.store 17 true (T 2) (T 45)),
 mI 3 0,
 mv 4 46]) .ret) .skip))))))) (.seq (R [
 A 47 (.mkFunc id_fault_Inside4_1 [(T 1)]),
 mv 6 47]) (.seq (R [
 mv 48 6,
 A 49 (.callv (T 48) [(I 2)]),
 mv 50 6,
 A 51 (.callv (T 50) [(I 6)]),
 mv 7 49,
 mv 8 51]) (.seq (.seq (R [
 mv 52 7,
 mv 53 5,
 bT 54 .lss 52 53,
 mv 55 54,
 wm 56 55 false 8,
 W 57 55 false (.bin .and (T 56) (I 32768)),
 W 58 55 false (.bin .neq (T 57) (I 0)),
 kF 59 55 58,
 mv 60 59,
 wm 61 60 false 8,
 W 62 60 false (.bin .and (T 61) (I 8191)),
 W 63 60 false (.bin .mul (T 62) (I 8)),
 wm 64 60 false 7,
 W 65 60 false (.bin .add (T 63) (T 64)),
 W 66 60 false (.bin .gtr (T 65) (I 65535)),
 kF 67 60 66]) (C 67 (.seq (R [
 A 68 (.load 17 true (T 2)),
 A 69 (.call id_fault_fault [(I 8)]),
 B (.store 17 true (T 2) (T 68)),
 mI 3 0,
 mv 4 69]) .ret) .skip)) (.seq (R [
 ld 70 1,
 mv 71 5,
 ld 72 1,
 lg 73 72,
 mv 74 7,
 A 75 (.minmax false (T 73) [(T 74)]),
 A 76 (.slc 0 (T 70) (some (T 71)) (some (T 75))),
 mv 9 76]) (.seq (.seq (R [
 mv 77 9,
 mv 78 7,
 mv 79 5,
 bT 80 .sub 78 79,
 A 81 (.call id_fault_short [(T 77), (T 80)])]) (C 81 (.seq (R [
 A 82 (.load 17 true (T 2)),
 A 83 (.call id_fault_fault [(I 7)]),
 B (.store 17 true (T 2) (T 82)),
 mI 3 0,
 mv 4 83]) .ret) .skip)) (.seq (R [
 ld 84 1,
 A 85 (.idxStr (T 84) (I 1)),
 A 86 (.conv .i64 (T 85)),
 mv 87 6,
 A 88 (.callv (T 87) [(I 4)]),
 ld 89 1,
 A 90 (.idxStr (T 89) (I 8)),
 A 91 (.conv .i64 (T 90)),
 ld 92 1,
 A 93 (.idxStr (T 92) (I 9)),
 A 94 (.conv .i64 (T 93)),
 mv 95 8,
 bI 96 .and 95 8191,
 bI 97 .mul 96 8,
 mv 98 8,
 bI 99 .and 98 16384,
 bI 100 .neq 99 0,
 mv 101 8,
 bI 102 .and 101 8192,
 bI 103 .neq 102 0,
 ld 104 1,
 mv 105 5,
 A 106 (.slc 0 (T 104) (some (I 20)) (some (T 105))),
 mv 107 9,
 A 108 (.build (LV.agg [(LV.int .i64 0), (LV.int .i64 0), (LV.int .i64 0), (LV.int .i64 0), (LV.int .i64 0), (LV.bool false), (LV.bool false), (LV.bytes [0, 0, 0, 0]), (LV.bytes [0, 0, 0, 0]), (LV.str []), (LV.str [])]) [(0, (T 86)), (1, (T 88)), (2, (T 91)), (3, (T 94)), (4, (T 97)), (5, (T 100)), (6, (T 103)), (9, (T 106)), (10, (T 107))]),
 B (.store 17 true (T 2) (T 108))]) (.seq (R [
 fa 109 7 7 2,
 A 110 (.slcArr 4 (T 109) none none),
 ld 111 1,
 A 112 (.slc 0 (T 111) (some (I 12)) none),
 A 113 (.copy (T 110) (T 112))]) (.seq (R [
 fa 114 8 11 2,
 A 115 (.slcArr 4 (T 114) none none),
 ld 116 1,
 A 117 (.slc 0 (T 116) (some (I 16)) none),
 A 118 (.copy (T 115) (T 117))]) (.seq (R [
 A 119 (.load 17 true (T 2)),
 mv 120 7,
 mv 121 5,
 bT 122 .sub 120 121,
 B (.store 17 true (T 2) (T 119)),
 mv 3 122,
 A 4 (.mov (.cst LV.nili))]) .ret))))))))))))), [.cell 2 17 true, .tmp 3, .tmp 4]⟩
def c_fault_Quote6 : MFn := ⟨4, 131, (.seq (R [
 A 4 (.box (T 0)),
 A 6 (.box (T 2)),
 A 7 (.box (T 3)),
 A 8 (.mov (.cst (LV.str []))),
 A 9 (.mov (.cst LV.nili))]) (.seq (R [
 fa 18 3 3 4,
 ld 19 18,
 A 20 (.call id_head46_Proto [(T 19)]),
 mv 17 20,
 xt 21 17 0,
 xt 22 17 1,
 mv 10 21,
 mv 11 22]) (.seq (R [
 fa 23 6 6 4,
 ld 24 23,
 mv 25 24,
 wf 26 25 false 4 4 4,
 wl 27 25 false 26,
 W 28 25 false (.bin .neq (T 27) (I 0)),
 kF 29 25 28,
 mv 12 29]) (.seq (R [
 mv 30 1,
 mv 13 30]) (.seq (.seq (R [
 mv 31 12]) (C 31 (R [
 mv 32 13,
 bI 33 .add 32 8,
 mv 13 33]) .skip)) (.seq (.block 0 (.seq (R [
 fa 35 0 0 4,
 ld 36 35,
 fa 37 2 2 4,
 ld 38 37,
 A 39 (.bsl (LV.int .i64 0) 2 [(0, (T 36)), (1, (T 38))]),
 A 40 (.call id_fault_within [(I 255), (T 39)]),
 A 41 (.un .not (T 40)),
 mv 42 41,
 wf 43 42 false 1 1 4,
 wl 44 42 false 43,
 wf 45 42 false 1 16 6,
 wl 46 42 false 45,
 wf 47 42 false 1 16 7,
 wl 48 42 false 47,
 W 49 42 false (.bsl (LV.int .i64 0) 3 [(0, (T 44)), (1, (T 46)), (2, (T 48))]),
 W 50 42 false (.call id_fault_within [(I 65535), (T 49)]),
 W 51 42 false (.un .not (T 50)),
 kF 52 42 51,
 mv 53 52,
 wf 54 53 false 4 4 4,
 wl 55 53 false 54,
 W 56 53 false (.bsl (LV.int .i64 0) 1 [(0, (T 55))]),
 W 57 53 false (.call id_fault_within [(I 65528), (T 56)]),
 W 58 53 false (.un .not (T 57)),
 kF 59 53 58,
 mv 60 59,
 wf 61 60 false 4 4 4,
 wl 62 60 false 61,
 W 63 60 false (.bin .rem (T 62) (I 8)),
 W 64 60 false (.bin .neq (T 63) (I 0)),
 kF 65 60 64,
 mv 66 65,
 wm 67 66 false 1,
 wf 68 66 false 10 16 4,
 wl 69 66 false 68,
 W 70 66 false (.len true (T 69)),
 W 71 66 false (.bin .lss (T 67) (T 70)),
 kF 72 66 71,
 mv 34 72]) (C 34 (.seq (R [
 A 73 (.call id_fault_fault [(I 13)]),
 A 8 (.mov (.cst (LV.str []))),
 mv 9 73]) .ret) (.seq (R [
 mv 75 11,
 A 76 (.un .not (T 75)),
 mv 74 76]) (C 74 (.seq (R [
 A 77 (.call id_fault_fault [(I 10)]),
 A 8 (.mov (.cst (LV.str []))),
 mv 9 77]) .ret) (.seq (R [
 mv 79 13,
 bI 80 .gtr 79 65535,
 mv 78 80]) (C 78 (.seq (R [
 A 81 (.call id_fault_fault [(I 3)]),
 A 8 (.mov (.cst (LV.str []))),
 mv 9 81]) .ret) .skip))))))) (.seq (R [
 mv 82 10,
 mv 14 82,
 A 15 (.mov (.cst (LV.str [])))]) (.seq (.seq (R [
 mv 83 12]) (C 83 (.seq (R [
 fa 84 4 4 4,
 ld 85 84,
 mv 16 85]) (.seq (.seq (R [
 fa 86 6 6 4,
 ld 87 86]) (C 87 (R [
 mv 88 16,
 bI 89 .add 88 1,
 mv 16 89]) .skip)) (R [
 mv 90 10,
 A 91 (.call id_fault_big [(T 90), (I 1)]),
 A 92 (.bin .add (T 91) (.cst (LV.str [0]))),
 mv 93 16,
 A 94 (.call id_fault_big [(T 93), (I 2)]),
 bT 95 .add 92 94,
 fa 96 1 1 4,
 ld 97 96,
 A 98 (.call id_fault_big [(T 97), (I 4)]),
 bT 99 .add 95 98,
 mI 14 44,
 mv 15 99]))) .skip)) (.seq (R [
 fa 100 0 0 4,
 ld 101 100,
 A 102 (.bin .shl (T 101) (.cst (LV.int .u64 20))),
 A 103 (.bin .or (I 1610612736) (T 102)),
 A 104 (.call id_fault_big [(T 103), (I 4)]),
 mv 105 13,
 A 106 (.call id_fault_big [(T 105), (I 2)]),
 bT 107 .add 104 106,
 mv 108 14,
 A 109 (.call id_fault_big [(T 108), (I 1)]),
 bT 110 .add 107 109,
 fa 111 2 2 4,
 ld 112 111,
 A 113 (.call id_fault_big [(T 112), (I 1)]),
 bT 114 .add 110 113,
 fa 115 0 0 6,
 A 116 (.slcArr 16 (T 115) none none),
 A 117 (.b2s (T 116)),
 bT 118 .add 114 117,
 fa 119 0 0 7,
 A 120 (.slcArr 16 (T 119) none none),
 A 121 (.b2s (T 120)),
 bT 122 .add 118 121,
 mv 123 15,
 bT 124 .add 122 123,
 A 125 (.load 17 true (T 4)),
 mv 126 1,
 A 127 (.load 17 true (T 6)),
 A 128 (.load 17 true (T 7)),
 A 129 (.call id_fault_turn6 [(T 125), (T 126), (T 127), (T 128)]),
 bT 130 .add 124 129,
 mv 8 130,
 A 9 (.mov (.cst LV.nili))]) .ret))))))))), [.tmp 8, .tmp 9]⟩
def c_ip6_Parse : MFn := ⟨1, 147, (.seq (R [
 A 2 (.alloc (LV.agg [(LV.int .i64 0), (LV.int .i64 0), (LV.int .i64 0), (LV.bytes [0, 0, 0, 0, 0, 0, 0, 0, 0, 0, 0, 0, 0, 0, 0, 0]), (LV.bytes [0, 0, 0, 0, 0, 0, 0, 0, 0, 0, 0, 0, 0, 0, 0, 0]), LV.nils, (LV.bool false), (LV.int .u32 0), (LV.int .i64 0), (LV.bool false), (LV.int .i64 0), (LV.str [])])),
 A 3 (.mov (.cst LV.nili))]) (.seq (R [
 A 4 (.alloc (LV.agg [(LV.int .i64 0), (LV.int .i64 0), (LV.int .i64 0), (LV.bytes [0, 0, 0, 0, 0, 0, 0, 0, 0, 0, 0, 0, 0, 0, 0, 0]), (LV.bytes [0, 0, 0, 0, 0, 0, 0, 0, 0, 0, 0, 0, 0, 0, 0, 0]), LV.nils, (LV.bool false), (LV.int .u32 0), (LV.int .i64 0), (LV.bool false), (LV.int .i64 0), (LV.str [])]))]) (.seq (.seq (R [
 mv 13 0,
 lg 14 13,
 bI 15 .lss 14 40]) (C 15 (.seq (R [
 A 16 (.load 42 true (T 4)),
 A 17 (.call id_ip6_fault [(I 7)]),
 B (.store 42 true (T 2) (T 16)),
 mv 3 17]) .ret) .skip)) (.seq (.seq (R [
 mv 18 0,
 A 19 (.idxStr (T 18) (I 0)),
 A 20 (.bin .shr (T 19) (.cst (LV.int .u64 4))),
 A 21 (.bin .neq (T 20) (.cst (LV.int .u8 6)))]) (C 21 (.seq (R [
 A 22 (.load 42 true (T 4)),
 A 23 (.call id_ip6_fault [(I 8)]),
 B (.store 42 true (T 2) (T 22)),
 mv 3 23]) .ret) .skip)) (.seq (R [
 mv 24 0,
 A 25 (.idxStr (T 24) (I 4)),
 A 26 (.conv .i64 (T 25)),
 A 27 (.bin .shl (T 26) (.cst (LV.int .u64 8))),
 mv 28 0,
 A 29 (.idxStr (T 28) (I 5)),
 A 30 (.conv .i64 (T 29)),
 bT 31 .or 27 30,
 mv 5 31]) (.seq (.seq (R [
 mv 32 0,
 lg 33 32,
 mv 34 5,
 A 35 (.bin .add (I 40) (T 34)),
 bT 36 .lss 33 35]) (C 36 (.seq (R [
 A 37 (.load 42 true (T 4)),
 A 38 (.call id_ip6_fault [(I 7)]),
 B (.store 42 true (T 2) (T 37)),
 mv 3 38]) .ret) .skip)) (.seq (R [
 mv 40 0,
 A 41 (.callFr id_num_New [(T 40)]),
 A 42 (.callRw id_num_Reader_U32 [(T 41)]),
 mv 39 42,
 xt 43 39 0,
 xt 44 39 1,
 mv 6 43,
 mv 7 44]) (.seq (R [
 mv 45 6,
 A 46 (.bin .shr (T 45) (.cst (LV.int .u64 20))),
 bI 47 .and 46 255,
 mv 48 6,
 bI 49 .and 48 1048575,
 mv 50 0,
 A 51 (.idxStr (T 50) (I 7)),
 A 52 (.conv .i64 (T 51)),
 A 53 (.build (LV.agg [(LV.int .i64 0), (LV.int .i64 0), (LV.int .i64 0), (LV.bytes [0, 0, 0, 0, 0, 0, 0, 0, 0, 0, 0, 0, 0, 0, 0, 0]), (LV.bytes [0, 0, 0, 0, 0, 0, 0, 0, 0, 0, 0, 0, 0, 0, 0, 0]), LV.nils, (LV.bool false), (LV.int .u32 0), (LV.int .i64 0), (LV.bool false), (LV.int .i64 0), (LV.str [])]) [(0, (T 47)), (1, (T 49)), (2, (T 52))]),
 A 8 (.alloc (LV.agg [(LV.int .i64 0), (LV.int .i64 0), (LV.int .i64 0), (LV.bytes [0, 0, 0, 0, 0, 0, 0, 0, 0, 0, 0, 0, 0, 0, 0, 0]), (LV.bytes [0, 0, 0, 0, 0, 0, 0, 0, 0, 0, 0, 0, 0, 0, 0, 0]), LV.nils, (LV.bool false), (LV.int .u32 0), (LV.int .i64 0), (LV.bool false), (LV.int .i64 0), (LV.str [])])),
 B (.store 42 true (T 8) (T 53))]) (.seq (R [
 fa 54 3 3 8,
 A 55 (.slcArr 16 (T 54) none none),
 mv 56 0,
 A 57 (.slc 0 (T 56) (some (I 8)) none),
 A 58 (.copy (T 55) (T 57))]) (.seq (R [
 fa 59 4 19 8,
 A 60 (.slcArr 16 (T 59) none none),
 mv 61 0,
 A 62 (.slc 0 (T 61) (some (I 24)) none),
 A 63 (.copy (T 60) (T 62))]) (.seq (R [
 A 9 (.mov (.cst LV.nili))]) (.seq (R [
 mv 65 0,
 A 66 (.idxStr (T 65) (I 6)),
 A 67 (.conv .i64 (T 66)),
 mv 68 0,
 mv 69 5,
 A 70 (.bin .add (I 40) (T 69)),
 A 71 (.slc 0 (T 68) (some (I 40)) (some (T 70))),
 A 72 (.call id_ip6_Chain [(T 67), (T 71)]),
 mv 64 72,
 xt 73 64 0,
 xt 74 64 1,
 xt 75 64 2,
 xt 76 64 3,
 fa 77 5 35 8,
 B (.store 1 false (T 77) (T 73)),
 fa 78 10 40 8,
 B (.store 1 false (T 78) (T 74)),
 fa 79 11 41 8,
 B (.store 1 false (T 79) (T 75)),
 mv 9 76]) (.seq (.seq (R [
 mv 80 9,
 A 81 (.eqNil 1 true (T 80))]) (C 81 (.seq (R [
 A 82 (.load 42 true (T 4)),
 mv 83 9,
 B (.store 42 true (T 2) (T 82)),
 mv 3 83]) .ret) .skip)) (.seq (.seq (R [
 fa 84 10 40 8,
 ld 85 84,
 bI 86 .neq 85 44]) (C 86 (.seq (R [
 A 87 (.load 42 true (T 8)),
 B (.store 42 true (T 2) (T 87)),
 A 3 (.mov (.cst LV.nili))]) .ret) .skip)) (.seq (.seq (R [
 fa 88 11 41 8,
 ld 89 88,
 lg 90 89,
 bI 91 .lss 90 8]) (C 91 (.seq (R [
 A 92 (.load 42 true (T 4)),
 A 93 (.call id_ip6_fault [(I 7)]),
 B (.store 42 true (T 2) (T 92)),
 mv 3 93]) .ret) .skip)) (.seq (R [
 fa 94 11 41 8,
 ld 95 94,
 A 96 (.idxStr (T 95) (I 2)),
 A 97 (.conv .i64 (T 96)),
 A 98 (.bin .shl (T 97) (.cst (LV.int .u64 8))),
 fa 99 11 41 8,
 ld 100 99,
 A 101 (.idxStr (T 100) (I 3)),
 A 102 (.conv .i64 (T 101)),
 bT 103 .or 98 102,
 mv 10 103]) (.seq (R [
 fa 105 11 41 8,
 ld 106 105,
 A 107 (.slc 0 (T 106) (some (I 4)) none),
 A 108 (.callFr id_num_New [(T 107)]),
 A 109 (.callRw id_num_Reader_U32 [(T 108)]),
 mv 104 109,
 xt 110 104 0,
 xt 111 104 1,
 mv 11 110,
 mv 12 111]) (.seq (R [
 mv 112 11,
 A 113 (.conv .u32 (T 112)),
 mv 114 10,
 bI 115 .andNot 114 7,
 mv 116 10,
 bI 117 .and 116 1,
 bI 118 .neq 117 0,
 fa 119 11 41 8,
 ld 120 119,
 A 121 (.idxStr (T 120) (I 0)),
 A 122 (.conv .i64 (T 121)),
 fa 123 11 41 8,
 ld 124 123,
 A 125 (.slc 0 (T 124) (some (I 8)) none),
 fa 126 6 36 8,
 B (.store 1 false (T 126) (.cst (LV.bool true))),
 fa 127 7 37 8,
 B (.store 1 false (T 127) (T 113)),
 fa 128 8 38 8,
 B (.store 1 false (T 128) (T 115)),
 fa 129 9 39 8,
 B (.store 1 false (T 129) (T 118)),
 fa 130 10 40 8,
 B (.store 1 false (T 130) (T 122)),
 fa 131 11 41 8,
 B (.store 1 false (T 131) (T 125))]) (.seq (.seq (R [
 A 132 (.load 42 true (T 8)),
 A 133 (.call id_ip6_pieced [(T 132)]),
 A 134 (.un .not (T 133)),
 mv 135 134,
 wf 136 135 false 11 41 8,
 wl 137 135 false 136,
 W 138 135 false (.len true (T 137)),
 wf 139 135 false 8 38 8,
 wl 140 135 false 139,
 W 141 135 false (.bin .sub (I 65535) (T 140)),
 W 142 135 false (.bin .gtr (T 138) (T 141)),
 kF 143 135 142]) (C 143 (.seq (R [
 A 144 (.load 42 true (T 4)),
 A 145 (.call id_ip6_fault [(I 8)]),
 B (.store 42 true (T 2) (T 144)),
 mv 3 145]) .ret) .skip)) (.seq (R [
 A 146 (.load 42 true (T 8)),
 B (.store 42 true (T 2) (T 146)),
 A 3 (.mov (.cst LV.nili))]) .ret)))))))))))))))))))), [.cell 2 42 true, .tmp 3]⟩
def c_tcp_Check : MFn := ⟨2, 21, (.seq (R [
 A 4 (.mov (.cst LV.nili))]) (.seq (.seq (R [
 mv 8 0,
 A 9 (.call id_tcp_Parse [(T 8)]),
 mv 7 9,
 xt 10 7 0,
 xt 11 7 1,
 A 5 (.alloc (LV.agg [(LV.int .i64 0), (LV.int .i64 0), (LV.int .i64 0), (LV.str [])])),
 B (.store 4 true (T 5) (T 10)),
 mv 6 11]) (.seq (R [
 mv 12 6,
 A 13 (.eqNil 1 true (T 12))]) (C 13 (.seq (R [
 mv 14 6,
 mv 4 14]) .ret) .skip))) (.seq (.seq (R [
 mv 15 1,
 mv 16 0,
 A 17 (.bsl (LV.str []) 2 [(0, (T 15)), (1, (T 16))]),
 A 18 (.call id_sum_Right [(T 17)]),
 A 19 (.un .not (T 18))]) (C 19 (.seq (R [
 A 20 (.call id_tcp_fault [(I 9)]),
 mv 4 20]) .ret) .skip)) (.seq (R [
 A 4 (.mov (.cst LV.nili))]) .ret)))), [.tmp 4]⟩
def c_sum_Pseudo4 : MFn := ⟨4, 21, (.seq (R [
 A 4 (.box (T 0)),
 A 5 (.box (T 1)),
 A 8 (.mov (.cst (LV.str [])))]) (.seq (R [
 A 9 (.slcArr 4 (T 4) none none),
 A 10 (.b2s (T 9)),
 A 11 (.slcArr 4 (T 5) none none),
 A 12 (.b2s (T 11)),
 bT 13 .add 10 12,
 A 14 (.bin .add (T 13) (.cst (LV.str [0]))),
 mv 15 2,
 A 16 (.call id_sum_big [(T 15), (I 1)]),
 bT 17 .add 14 16,
 mv 18 3,
 A 19 (.call id_sum_big [(T 18), (I 2)]),
 bT 20 .add 17 19,
 mv 8 20]) .ret)), [.tmp 8]⟩
def c_sum_Pseudo6 : MFn := ⟨4, 21, (.seq (R [
 A 4 (.box (T 0)),
 A 5 (.box (T 1)),
 A 8 (.mov (.cst (LV.str [])))]) (.seq (R [
 A 9 (.slcArr 16 (T 4) none none),
 A 10 (.b2s (T 9)),
 A 11 (.slcArr 16 (T 5) none none),
 A 12 (.b2s (T 11)),
 bT 13 .add 10 12,
 mv 14 3,
 A 15 (.call id_sum_big [(T 14), (I 4)]),
 bT 16 .add 13 15,
 A 17 (.bin .add (T 16) (.cst (LV.str [0, 0, 0]))),
 mv 18 2,
 A 19 (.call id_sum_big [(T 18), (I 1)]),
 bT 20 .add 17 19,
 mv 8 20]) .ret)), [.tmp 8]⟩
def c_udp_Check : MFn := ⟨2, 28, (.seq (R [
 A 4 (.mov (.cst LV.nili))]) (.seq (R [
 mv 8 0,
 A 9 (.call id_udp_Parse [(T 8)]),
 mv 7 9,
 xt 10 7 0,
 xt 11 7 1,
 A 5 (.alloc (LV.agg [(LV.int .i64 0), (LV.int .i64 0), (LV.int .i64 0), (LV.str [])])),
 B (.store 4 true (T 5) (T 10)),
 mv 6 11]) (.seq (.block 0 (.seq (R [
 mv 13 6,
 A 14 (.eqNil 1 true (T 13)),
 mv 12 14]) (C 12 (.seq (R [
 mv 15 6,
 mv 4 15]) .ret) (.seq (R [
 fa 17 2 2 5,
 ld 18 17,
 bI 19 .eql 18 0,
 mv 16 19]) (C 16 (.seq (R [
 A 20 (.call id_udp_fault [(I 4)]),
 mv 4 20]) .ret) (.seq (R [
 mv 22 1,
 mv 23 0,
 A 24 (.bsl (LV.str []) 2 [(0, (T 22)), (1, (T 23))]),
 A 25 (.call id_sum_Right [(T 24)]),
 A 26 (.un .not (T 25)),
 mv 21 26]) (C 21 (.seq (R [
 A 27 (.call id_udp_fault [(I 9)]),
 mv 4 27]) .ret) .skip))))))) (.seq (R [
 A 4 (.mov (.cst LV.nili))]) .ret)))), [.tmp 4]⟩
def c_icmp4_Parse : MFn := ⟨1, 38, (.seq (R [
 A 2 (.alloc (LV.agg [(LV.int .i64 0), (LV.int .i64 0), (LV.int .u32 0), (LV.str [])])),
 A 3 (.mov (.cst LV.nili))]) (.seq (.block 0 (.seq (R [
 mv 7 0,
 lg 8 7,
 bI 9 .lss 8 8,
 mv 6 9]) (C 6 (.seq (R [
 A 10 (.build (LV.agg [(LV.int .i64 0), (LV.int .i64 0), (LV.int .u32 0), (LV.str [])]) []),
 A 11 (.call id_icmp4_fault [(I 7)]),
 B (.store 4 true (T 2) (T 10)),
 mv 3 11]) .ret) (.seq (R [
 mv 13 0,
 A 14 (.bsl (LV.str []) 1 [(0, (T 13))]),
 A 15 (.call id_sum_Right [(T 14)]),
 A 16 (.un .not (T 15)),
 mv 12 16]) (C 12 (.seq (R [
 A 17 (.build (LV.agg [(LV.int .i64 0), (LV.int .i64 0), (LV.int .u32 0), (LV.str [])]) []),
 A 18 (.call id_icmp4_fault [(I 9)]),
 B (.store 4 true (T 2) (T 17)),
 mv 3 18]) .ret) .skip))))) (.seq (R [
 mv 20 0,
 A 21 (.slc 0 (T 20) (some (I 4)) none),
 A 22 (.callFr id_num_New [(T 21)]),
 A 23 (.callRw id_num_Reader_U32 [(T 22)]),
 mv 19 23,
 xt 24 19 0,
 xt 25 19 1,
 mv 4 24,
 mv 5 25]) (.seq (R [
 mv 26 0,
 A 27 (.idxStr (T 26) (I 0)),
 A 28 (.conv .i64 (T 27)),
 mv 29 0,
 A 30 (.idxStr (T 29) (I 1)),
 A 31 (.conv .i64 (T 30)),
 mv 32 4,
 A 33 (.conv .u32 (T 32)),
 mv 34 0,
 A 35 (.slc 0 (T 34) (some (I 8)) none),
 A 36 (.build (LV.agg [(LV.int .i64 0), (LV.int .i64 0), (LV.int .u32 0), (LV.str [])]) [(0, (T 28)), (1, (T 31)), (2, (T 33)), (3, (T 35))]),
 mv 37 5,
 B (.store 4 true (T 2) (T 36)),
 mv 3 37]) .ret)))), [.cell 2 4 true, .tmp 3]⟩
def c_icmp4_Echo : MFn := ⟨1, 25, (.seq (R [
 A 1 (.box (T 0)),
 mI 2 0,
 A 3 (.mov (.cst (LV.bool false))),
 A 4 (.mov (.cst (LV.bool false)))]) (.seq (.seq (R [
 fa 5 1 1 1,
 ld 6 5,
 bI 7 .neq 6 0,
 mv 8 7,
 wf 9 8 false 0 0 1,
 wl 10 8 false 9,
 W 11 8 false (.bin .neq (T 10) (I 8)),
 wm 12 8 false 11,
 wf 13 12 true 0 0 1,
 wl 14 12 true 13,
 W 15 12 true (.bin .neq (T 14) (I 0)),
 W 16 8 false (.pick (T 12) (T 15) (.cst (LV.bool false))),
 kF 17 8 16]) (C 17 (.seq (R [
 mI 2 0,
 A 3 (.mov (.cst (LV.bool false))),
 A 4 (.mov (.cst (LV.bool false)))]) .ret) .skip)) (.seq (R [
 fa 18 2 2 1,
 ld 19 18,
 A 20 (.bin .shr (T 19) (.cst (LV.int .u64 16))),
 A 21 (.conv .i64 (T 20)),
 fa 22 0 0 1,
 ld 23 22,
 bI 24 .eql 23 8,
 mv 2 21,
 mv 3 24,
 A 4 (.mov (.cst (LV.bool true)))]) .ret))), [.tmp 2, .tmp 3, .tmp 4]⟩
def c_icmp6_Parse : MFn := ⟨2, 41, (.seq (R [
 A 4 (.alloc (LV.agg [(LV.int .i64 0), (LV.int .i64 0), (LV.int .u32 0), (LV.str [])])),
 A 5 (.mov (.cst LV.nili))]) (.seq (.block 0 (.seq (R [
 mv 9 0,
 lg 10 9,
 bI 11 .lss 10 8,
 mv 8 11]) (C 8 (.seq (R [
 A 12 (.build (LV.agg [(LV.int .i64 0), (LV.int .i64 0), (LV.int .u32 0), (LV.str [])]) []),
 A 13 (.call id_icmp6_fault [(I 7)]),
 B (.store 4 true (T 4) (T 12)),
 mv 5 13]) .ret) (.seq (R [
 mv 15 1,
 mv 16 0,
 A 17 (.bsl (LV.str []) 2 [(0, (T 15)), (1, (T 16))]),
 A 18 (.call id_sum_Right [(T 17)]),
 A 19 (.un .not (T 18)),
 mv 14 19]) (C 14 (.seq (R [
 A 20 (.build (LV.agg [(LV.int .i64 0), (LV.int .i64 0), (LV.int .u32 0), (LV.str [])]) []),
 A 21 (.call id_icmp6_fault [(I 9)]),
 B (.store 4 true (T 4) (T 20)),
 mv 5 21]) .ret) .skip))))) (.seq (R [
 mv 23 0,
 A 24 (.slc 0 (T 23) (some (I 4)) none),
 A 25 (.callFr id_num_New [(T 24)]),
 A 26 (.callRw id_num_Reader_U32 [(T 25)]),
 mv 22 26,
 xt 27 22 0,
 xt 28 22 1,
 mv 6 27,
 mv 7 28]) (.seq (R [
 mv 29 0,
 A 30 (.idxStr (T 29) (I 0)),
 A 31 (.conv .i64 (T 30)),
 mv 32 0,
 A 33 (.idxStr (T 32) (I 1)),
 A 34 (.conv .i64 (T 33)),
 mv 35 6,
 A 36 (.conv .u32 (T 35)),
 mv 37 0,
 A 38 (.slc 0 (T 37) (some (I 8)) none),
 A 39 (.build (LV.agg [(LV.int .i64 0), (LV.int .i64 0), (LV.int .u32 0), (LV.str [])]) [(0, (T 31)), (1, (T 34)), (2, (T 36)), (3, (T 38))]),
 mv 40 7,
 B (.store 4 true (T 4) (T 39)),
 mv 5 40]) .ret)))), [.cell 4 4 true, .tmp 5]⟩
def c_icmp6_Echo : MFn := ⟨1, 25, (.seq (R [
 A 1 (.box (T 0)),
 mI 2 0,
 A 3 (.mov (.cst (LV.bool false))),
 A 4 (.mov (.cst (LV.bool false)))]) (.seq (.seq (R [
 fa 5 1 1 1,
 ld 6 5,
 bI 7 .neq 6 0,
 mv 8 7,
 wf 9 8 false 0 0 1,
 wl 10 8 false 9,
 W 11 8 false (.bin .neq (T 10) (I 128)),
 wm 12 8 false 11,
 wf 13 12 true 0 0 1,
 wl 14 12 true 13,
 W 15 12 true (.bin .neq (T 14) (I 129)),
 W 16 8 false (.pick (T 12) (T 15) (.cst (LV.bool false))),
 kF 17 8 16]) (C 17 (.seq (R [
 mI 2 0,
 A 3 (.mov (.cst (LV.bool false))),
 A 4 (.mov (.cst (LV.bool false)))]) .ret) .skip)) (.seq (R [
 fa 18 2 2 1,
 ld 19 18,
 A 20 (.bin .shr (T 19) (.cst (LV.int .u64 16))),
 A 21 (.conv .i64 (T 20)),
 fa 22 0 0 1,
 ld 23 22,
 bI 24 .eql 23 128,
 mv 2 21,
 mv 3 24,
 A 4 (.mov (.cst (LV.bool true)))]) .ret))), [.tmp 2, .tmp 3, .tmp 4]⟩
def c_fault_Inside6 : MFn := ⟨1, 140, (.seq (R [
 A 2 (.alloc (LV.agg [(LV.int .i64 0), (LV.int .i64 0), (LV.int .i64 0), (LV.bytes [0, 0, 0, 0, 0, 0, 0, 0, 0, 0, 0, 0, 0, 0, 0, 0]), (LV.bytes [0, 0, 0, 0, 0, 0, 0, 0, 0, 0, 0, 0, 0, 0, 0, 0]), LV.nils, (LV.bool false), (LV.int .u32 0), (LV.int .i64 0), (LV.bool false), (LV.int .i64 0), (LV.str [])])),
 mI 3 0,
 A 4 (.mov (.cst LV.nili))]) (.seq (.seq (R [
 mv 16 0,
 lg 17 16,
 bI 18 .lss 17 40]) (C 18 (.seq (R [
 A 19 (.load 42 true (T 2)),
 A 20 (.call id_fault_fault [(I 7)]),
 B (.store 42 true (T 2) (T 19)),
 mI 3 0,
 mv 4 20]) .ret) .skip)) (.seq (.seq (R [
 mv 21 0,
 A 22 (.idxStr (T 21) (I 0)),
 A 23 (.bin .shr (T 22) (.cst (LV.int .u64 4))),
 A 24 (.bin .neq (T 23) (.cst (LV.int .u8 6)))]) (C 24 (.seq (R [
 A 25 (.load 42 true (T 2)),
 A 26 (.call id_fault_fault [(I 8)]),
 B (.store 42 true (T 2) (T 25)),
 mI 3 0,
 mv 4 26]) .ret) .skip)) (.seq (R [
 mv 27 0,
 A 28 (.idxStr (T 27) (I 4)),
 A 29 (.conv .i64 (T 28)),
 A 30 (.bin .shl (T 29) (.cst (LV.int .u64 8))),
 mv 31 0,
 A 32 (.idxStr (T 31) (I 5)),
 A 33 (.conv .i64 (T 32)),
 bT 34 .or 30 33,
 mv 5 34]) (.seq (R [
 mv 35 0,
 mv 36 0,
 lg 37 36,
 mv 38 5,
 A 39 (.bin .add (I 40) (T 38)),
 A 40 (.minmax false (T 37) [(T 39)]),
 A 41 (.slc 0 (T 35) (some (I 40)) (some (T 40))),
 mv 6 41]) (.seq (R [
 mv 43 0,
 A 44 (.idxStr (T 43) (I 6)),
 A 45 (.conv .i64 (T 44)),
 mv 46 6,
 A 47 (.call id_ip6_Chain [(T 45), (T 46)]),
 mv 42 47,
 xt 48 42 0,
 xt 49 42 1,
 xt 50 42 2,
 xt 51 42 3,
 mv 7 48,
 mv 8 49,
 mv 9 50,
 mv 4 51]) (.seq (.seq (R [
 mv 52 4,
 A 53 (.eqNil 1 true (T 52))]) (C 53 (.seq (R [
 A 54 (.load 42 true (T 2)),
 mv 55 4,
 B (.store 42 true (T 2) (T 54)),
 mI 3 0,
 mv 4 55]) .ret) .skip)) (.seq (R [
 mv 57 0,
 A 58 (.callFr id_num_New [(T 57)]),
 A 59 (.callRw id_num_Reader_U32 [(T 58)]),
 mv 56 59,
 xt 60 56 0,
 xt 61 56 1,
 mv 10 60,
 mv 11 61]) (.seq (R [
 mv 62 10,
 A 63 (.bin .shr (T 62) (.cst (LV.int .u64 20))),
 bI 64 .and 63 255,
 mv 65 10,
 bI 66 .and 65 1048575,
 mv 67 0,
 A 68 (.idxStr (T 67) (I 7)),
 A 69 (.conv .i64 (T 68)),
 mv 70 7,
 mv 71 8,
 mv 72 9,
 A 73 (.build (LV.agg [(LV.int .i64 0), (LV.int .i64 0), (LV.int .i64 0), (LV.bytes [0, 0, 0, 0, 0, 0, 0, 0, 0, 0, 0, 0, 0, 0, 0, 0]), (LV.bytes [0, 0, 0, 0, 0, 0, 0, 0, 0, 0, 0, 0, 0, 0, 0, 0]), LV.nils, (LV.bool false), (LV.int .u32 0), (LV.int .i64 0), (LV.bool false), (LV.int .i64 0), (LV.str [])]) [(0, (T 64)), (1, (T 66)), (2, (T 69)), (5, (T 70)), (10, (T 71)), (11, (T 72))]),
 A 12 (.alloc (LV.agg [(LV.int .i64 0), (LV.int .i64 0), (LV.int .i64 0), (LV.bytes [0, 0, 0, 0, 0, 0, 0, 0, 0, 0, 0, 0, 0, 0, 0, 0]), (LV.bytes [0, 0, 0, 0, 0, 0, 0, 0, 0, 0, 0, 0, 0, 0, 0, 0]), LV.nils, (LV.bool false), (LV.int .u32 0), (LV.int .i64 0), (LV.bool false), (LV.int .i64 0), (LV.str [])])),
 B (.store 42 true (T 12) (T 73))]) (.seq (R [
 fa 74 3 3 12,
 A 75 (.slcArr 16 (T 74) none none),
 mv 76 0,
 A 77 (.slc 0 (T 76) (some (I 8)) none),
 A 78 (.copy (T 75) (T 77))]) (.seq (R [
 fa 79 4 19 12,
 A 80 (.slcArr 16 (T 79) none none),
 mv 81 0,
 A 82 (.slc 0 (T 81) (some (I 24)) none),
 A 83 (.copy (T 80) (T 82))]) (.seq (.seq (R [
 mv 84 8,
 bI 85 .eql 84 44]) (C 85 (.seq (.seq (R [
 mv 86 9,
 lg 87 86,
 bI 88 .lss 87 8]) (C 88 (.seq (R [
 A 89 (.load 42 true (T 2)),
 A 90 (.call id_fault_fault [(I 7)]),
 B (.store 42 true (T 2) (T 89)),
 mI 3 0,
 mv 4 90]) .ret) .skip)) (.seq (R [
 mv 91 9,
 A 92 (.idxStr (T 91) (I 2)),
 A 93 (.conv .i64 (T 92)),
 A 94 (.bin .shl (T 93) (.cst (LV.int .u64 8))),
 mv 95 9,
 A 96 (.idxStr (T 95) (I 3)),
 A 97 (.conv .i64 (T 96)),
 bT 98 .or 94 97,
 mv 13 98]) (.seq (R [
 mv 100 9,
 A 101 (.slc 0 (T 100) (some (I 4)) none),
 A 102 (.callFr id_num_New [(T 101)]),
 A 103 (.callRw id_num_Reader_U32 [(T 102)]),
 mv 99 103,
 xt 104 99 0,
 xt 105 99 1,
 mv 14 104,
 mv 15 105]) (R [
 mv 106 14,
 A 107 (.conv .u32 (T 106)),
 mv 108 13,
 bI 109 .andNot 108 7,
 mv 110 13,
 bI 111 .and 110 1,
 bI 112 .neq 111 0,
 mv 113 9,
 A 114 (.idxStr (T 113) (I 0)),
 A 115 (.conv .i64 (T 114)),
 mv 116 9,
 A 117 (.slc 0 (T 116) (some (I 8)) none),
 fa 118 6 36 12,
 B (.store 1 false (T 118) (.cst (LV.bool true))),
 fa 119 7 37 12,
 B (.store 1 false (T 119) (T 107)),
 fa 120 8 38 12,
 B (.store 1 false (T 120) (T 109)),
 fa 121 9 39 12,
 B (.store 1 false (T 121) (T 112)),
 fa 122 10 40 12,
 B (.store 1 false (T 122) (T 115)),
 fa 123 11 41 12,
 B (.store 1 false (T 123) (T 117))])))) .skip)) (.seq (R [
 mv 124 5,
 mv 125 6,
 lg 126 125,
 fa 127 11 41 12,
 ld 128 127,
 lg 129 128,
 bT 130 .sub 126 129,
 bT 131 .sub 124 130,
 mv 3 131]) (.seq (.seq (R [
 fa 132 11 41 12,
 ld 133 132,
 mv 134 3,
 A 135 (.call id_fault_short [(T 133), (T 134)])]) (C 135 (.seq (R [
 A 136 (.load 42 true (T 2)),
 A 137 (.call id_fault_fault [(I 7)]),
 B (.store 42 true (T 2) (T 136)),
 mI 3 0,
 mv 4 137]) .ret) .skip)) (.seq (R [
 A 138 (.load 42 true (T 12)),
 mv 139 3,
 B (.store 42 true (T 2) (T 138)),
 mv 3 139,
 A 4 (.mov (.cst LV.nili))]) .ret))))))))))))))), [.cell 2 42 true, .tmp 3, .tmp 4]⟩
def c_interpreterref04_Same : MFn := ⟨2, 106, (.seq (R [
 A 2 (.box (T 0)),
 A 3 (.box (T 1)),
 A 4 (.mov (.cst (LV.bool false)))]) (.seq (.seq (R [
 fa 6 5 35 2,
 ld 7 6,
 A 8 (.len false (T 7)),
 fa 9 5 35 3,
 ld 10 9,
 A 11 (.len false (T 10)),
 bT 12 .neq 8 11]) (C 12 (.seq (R [
 A 4 (.mov (.cst (LV.bool false)))]) .ret) .skip)) (.seq (.seq (R [
 mI 5 0]) (.block 0 (.loop [4, 5] [13, 14, 15, 16, 17, 20, 21, 22, 23, 24, 25, 26, 27, 28, 29, 30, 18, 19] (.seq (.seq (R [
 mv 13 5,
 fa 14 5 35 2,
 ld 15 14,
 A 16 (.len false (T 15)),
 bT 17 .lss 13 16]) (C 17 .skip (.exit 0))) (.seq (.block 1 (.seq (R [
 fa 20 5 35 2,
 ld 21 20,
 mv 22 5,
 A 23 (.idxAddr none 2 (T 21) (T 22)),
 A 24 (.load 2 true (T 23)),
 fa 25 5 35 3,
 ld 26 25,
 mv 27 5,
 A 28 (.idxAddr none 2 (T 26) (T 27)),
 A 29 (.load 2 true (T 28)),
 A 30 (.eqS (Sh.agg [(Sh.int .i64), Sh.str]) true (T 24) (T 29))]) (C 30 (.seq (R [
 A 4 (.mov (.cst (LV.bool false)))]) .ret) .skip))) (R [
 mv 18 5,
 bI 19 .add 18 1,
 mv 5 19])))))) (.seq (R [
 fa 31 0 0 2,
 ld 32 31,
 fa 33 0 0 3,
 ld 34 33,
 bT 35 .eql 32 34,
 mv 36 35,
 wf 37 36 true 1 1 2,
 wl 38 36 true 37,
 wf 39 36 true 1 1 3,
 wl 40 36 true 39,
 W 41 36 true (.bin .eql (T 38) (T 40)),
 kT 42 36 41,
 mv 43 42,
 wf 44 43 true 2 2 2,
 wl 45 43 true 44,
 wf 46 43 true 2 2 3,
 wl 47 43 true 46,
 W 48 43 true (.bin .eql (T 45) (T 47)),
 kT 49 43 48,
 mv 50 49,
 wf 51 50 true 3 3 2,
 W 52 50 true (.load 16 true (T 51)),
 wf 53 50 true 3 3 3,
 W 54 50 true (.load 16 true (T 53)),
 W 55 50 true (.eqS (Sh.bytes 16) false (T 52) (T 54)),
 kT 56 50 55,
 mv 57 56,
 wf 58 57 true 4 19 2,
 W 59 57 true (.load 16 true (T 58)),
 wf 60 57 true 4 19 3,
 W 61 57 true (.load 16 true (T 60)),
 W 62 57 true (.eqS (Sh.bytes 16) false (T 59) (T 61)),
 kT 63 57 62,
 mv 64 63,
 wf 65 64 true 6 36 2,
 wl 66 64 true 65,
 wf 67 64 true 6 36 3,
 wl 68 64 true 67,
 W 69 64 true (.eqB false (T 66) (T 68)),
 kT 70 64 69,
 mv 71 70,
 wf 72 71 true 7 37 2,
 wl 73 71 true 72,
 wf 74 71 true 7 37 3,
 wl 75 71 true 74,
 W 76 71 true (.bin .eql (T 73) (T 75)),
 kT 77 71 76,
 mv 78 77,
 wf 79 78 true 8 38 2,
 wl 80 78 true 79,
 wf 81 78 true 8 38 3,
 wl 82 78 true 81,
 W 83 78 true (.bin .eql (T 80) (T 82)),
 kT 84 78 83,
 mv 85 84,
 wf 86 85 true 9 39 2,
 wl 87 85 true 86,
 wf 88 85 true 9 39 3,
 wl 89 85 true 88,
 W 90 85 true (.eqB false (T 87) (T 89)),
 kT 91 85 90,
 mv 92 91,
 wf 93 92 true 10 40 2,
 wl 94 92 true 93,
 wf 95 92 true 10 40 3,
 wl 96 92 true 95,
 W 97 92 true (.bin .eql (T 94) (T 96)),
 kT 98 92 97,
 mv 99 98,
 wf 100 99 true 11 41 2,
 wl 101 99 true 100,
 wf 102 99 true 11 41 3,
 wl 103 99 true 102,
 W 104 99 true (.bin .eql (T 101) (T 103)),
 kT 105 99 104,
 mv 4 105]) .ret)))), [.tmp 4]⟩
def c_fault_Quote4 : MFn := ⟨4, 131, (.seq (R [
 A 4 (.box (T 0)),
 A 6 (.box (T 2)),
 A 7 (.box (T 3)),
 A 8 (.mov (.cst (LV.str []))),
 A 9 (.mov (.cst LV.nili))]) (.seq (R [
 fa 17 10 40 4,
 ld 18 17,
 A 19 (.call id_head64_Proto [(T 18)]),
 mv 16 19,
 xt 20 16 0,
 xt 21 16 1,
 mv 10 20,
 mv 11 21]) (.seq (.block 0 (.seq (R [
 fa 23 0 0 4,
 ld 24 23,
 fa 25 2 2 4,
 ld 26 25,
 A 27 (.bsl (LV.int .i64 0) 2 [(0, (T 24)), (1, (T 26))]),
 A 28 (.call id_fault_within [(I 255), (T 27)]),
 A 29 (.un .not (T 28)),
 mv 30 29,
 wf 31 30 false 1 4 6,
 wl 32 30 false 31,
 wf 33 30 false 1 4 7,
 wl 34 30 false 33,
 W 35 30 false (.bsl (LV.int .i64 0) 2 [(0, (T 32)), (1, (T 34))]),
 W 36 30 false (.call id_fault_within [(I 65535), (T 35)]),
 W 37 30 false (.un .not (T 36)),
 kF 38 30 37,
 mv 39 38,
 wf 40 39 false 8 38 4,
 wl 41 39 false 40,
 W 42 39 false (.bsl (LV.int .i64 0) 1 [(0, (T 41))]),
 W 43 39 false (.call id_fault_within [(I 65528), (T 42)]),
 W 44 39 false (.un .not (T 43)),
 kF 45 39 44,
 mv 46 45,
 wf 47 46 false 8 38 4,
 wl 48 46 false 47,
 W 49 46 false (.bin .rem (T 48) (I 8)),
 W 50 46 false (.bin .neq (T 49) (I 0)),
 kF 51 46 50,
 mv 52 51,
 wm 53 52 false 1,
 wf 54 52 false 11 41 4,
 wl 55 52 false 54,
 W 56 52 false (.len true (T 55)),
 W 57 52 false (.bin .lss (T 53) (T 56)),
 kF 58 52 57,
 mv 22 58]) (C 22 (.seq (R [
 A 59 (.call id_fault_fault [(I 13)]),
 A 8 (.mov (.cst (LV.str []))),
 mv 9 59]) .ret) (.seq (R [
 mv 61 11,
 A 62 (.un .not (T 61)),
 mv 60 62]) (C 60 (.seq (R [
 A 63 (.call id_fault_fault [(I 10)]),
 A 8 (.mov (.cst (LV.str []))),
 mv 9 63]) .ret) (.seq (R [
 mv 65 1,
 fa 66 8 38 4,
 ld 67 66,
 A 68 (.bin .sub (I 65515) (T 67)),
 bT 69 .gtr 65 68,
 mv 64 69]) (C 64 (.seq (R [
 A 70 (.call id_fault_fault [(I 3)]),
 A 8 (.mov (.cst (LV.str []))),
 mv 9 70]) .ret) .skip))))))) (.seq (R [
 fa 71 8 38 4,
 ld 72 71,
 bI 73 .quo 72 8,
 mI 12 0,
 mv 13 73]) (.seq (.seq (R [
 fa 74 6 36 4,
 ld 75 74]) (C 75 (R [
 fa 76 7 37 4,
 ld 77 76,
 A 78 (.bin .and (T 77) (.cst (LV.int .u32 65535))),
 A 79 (.conv .i64 (T 78)),
 mv 12 79]) (.seq (R [
 mv 80 1,
 bI 81 .gtr 80 1240]) (C 81 (R [
 mv 82 13,
 bI 83 .or 82 16384,
 mv 13 83]) .skip)))) (.seq (.seq (R [
 fa 84 9 39 4,
 ld 85 84]) (C 85 (R [
 mv 86 13,
 bI 87 .or 86 8192,
 mv 13 87]) .skip)) (.seq (R [
 fa 88 0 0 4,
 ld 89 88,
 A 90 (.call id_fault_big [(T 89), (I 1)]),
 A 91 (.bin .add (.cst (LV.str [69])) (T 90)),
 mv 92 1,
 A 93 (.bin .add (I 20) (T 92)),
 A 94 (.call id_fault_big [(T 93), (I 2)]),
 bT 95 .add 91 94,
 mv 96 12,
 A 97 (.call id_fault_big [(T 96), (I 2)]),
 bT 98 .add 95 97,
 mv 99 13,
 A 100 (.call id_fault_big [(T 99), (I 2)]),
 bT 101 .add 98 100,
 fa 102 2 2 4,
 ld 103 102,
 A 104 (.call id_fault_big [(T 103), (I 1)]),
 bT 105 .add 101 104,
 mv 106 10,
 A 107 (.call id_fault_big [(T 106), (I 1)]),
 bT 108 .add 105 107,
 mv 14 108]) (.seq (R [
 fa 109 0 0 6,
 A 110 (.slcArr 4 (T 109) none none),
 A 111 (.b2s (T 110)),
 fa 112 0 0 7,
 A 113 (.slcArr 4 (T 112) none none),
 A 114 (.b2s (T 113)),
 bT 115 .add 111 114,
 mv 15 115]) (.seq (R [
 mv 116 14,
 mv 117 14,
 mv 118 15,
 A 119 (.bsl (LV.str []) 2 [(0, (T 117)), (1, (T 118))]),
 A 120 (.call id_sum_Of [(T 119)]),
 A 121 (.call id_fault_big [(T 120), (I 2)]),
 bT 122 .add 116 121,
 mv 123 15,
 bT 124 .add 122 123,
 A 125 (.load 42 true (T 4)),
 mv 126 1,
 A 127 (.load 5 true (T 6)),
 A 128 (.load 5 true (T 7)),
 A 129 (.call id_fault_turn4 [(T 125), (T 126), (T 127), (T 128)]),
 bT 130 .add 124 129,
 mv 8 130,
 A 9 (.mov (.cst LV.nili))]) .ret))))))))), [.tmp 8, .tmp 9]⟩
def c_ip4_Parse : MFn := ⟨1, 114, (.seq (R [
 A 1 (.box (T 0)),
 A 2 (.alloc (LV.agg [(LV.int .i64 0), (LV.int .i64 0), (LV.int .i64 0), (LV.int .i64 0), (LV.int .i64 0), (LV.bool false), (LV.bool false), (LV.bytes [0, 0, 0, 0]), (LV.bytes [0, 0, 0, 0]), (LV.str []), (LV.str [])])),
 A 3 (.mov (.cst LV.nili))]) (.seq (R [
 A 4 (.alloc (LV.agg [(LV.int .i64 0), (LV.int .i64 0), (LV.int .i64 0), (LV.int .i64 0), (LV.int .i64 0), (LV.bool false), (LV.bool false), (LV.bytes [0, 0, 0, 0]), (LV.bytes [0, 0, 0, 0]), (LV.str []), (LV.str [])]))]) (.seq (.seq (R [
 ld 10 1,
 lg 11 10,
 bI 12 .lss 11 20]) (C 12 (.seq (R [
 A 13 (.load 17 true (T 4)),
 A 14 (.call id_ip4_fault [(I 7)]),
 B (.store 17 true (T 2) (T 13)),
 mv 3 14]) .ret) .skip)) (.seq (R [
 ld 15 1,
 A 16 (.idxStr (T 15) (I 0)),
 A 17 (.bin .and (T 16) (.cst (LV.int .u8 15))),
 A 18 (.conv .i64 (T 17)),
 bI 19 .mul 18 4,
 mv 5 19]) (.seq (.block 0 (.seq (R [
 ld 21 1,
 A 22 (.idxStr (T 21) (I 0)),
 A 23 (.bin .shr (T 22) (.cst (LV.int .u64 4))),
 A 24 (.bin .neq (T 23) (.cst (LV.int .u8 4))),
 mv 25 24,
 wm 26 25 false 5,
 W 27 25 false (.bin .lss (T 26) (I 20)),
 kF 28 25 27,
 mv 20 28]) (C 20 (.seq (R [
 A 29 (.load 17 true (T 4)),
 A 30 (.call id_ip4_fault [(I 8)]),
 B (.store 17 true (T 2) (T 29)),
 mv 3 30]) .ret) (.seq (R [
 ld 32 1,
 lg 33 32,
 mv 34 5,
 bT 35 .lss 33 34,
 mv 31 35]) (C 31 (.seq (R [
 A 36 (.load 17 true (T 4)),
 A 37 (.call id_ip4_fault [(I 7)]),
 B (.store 17 true (T 2) (T 36)),
 mv 3 37]) .ret) (.seq (R [
 ld 39 1,
 mv 40 5,
 A 41 (.slc 0 (T 39) none (some (T 40))),
 A 42 (.bsl (LV.str []) 1 [(0, (T 41))]),
 A 43 (.call id_sum_Right [(T 42)]),
 A 44 (.un .not (T 43)),
 mv 38 44]) (C 38 (.seq (R [
 A 45 (.load 17 true (T 4)),
 A 46 (.call id_ip4_fault [(I 9)]),
 B (.store 17 true (T 2) (T 45)),
 mv 3 46]) .ret) .skip))))))) (.seq (R [
 A 47 (.mkFunc id_ip4_Parse_1 [(T 1)]),
 mv 6 47]) (.seq (R [
 mv 48 6,
 A 49 (.callv (T 48) [(I 2)]),
 mv 50 6,
 A 51 (.callv (T 50) [(I 6)]),
 mv 7 49,
 mv 8 51]) (.seq (.block 1 (.seq (R [
 mv 53 7,
 mv 54 5,
 bT 55 .lss 53 54,
 mv 52 55]) (C 52 (.seq (R [
 A 56 (.load 17 true (T 4)),
 A 57 (.call id_ip4_fault [(I 8)]),
 B (.store 17 true (T 2) (T 56)),
 mv 3 57]) .ret) (.seq (R [
 ld 59 1,
 lg 60 59,
 mv 61 7,
 bT 62 .lss 60 61,
 mv 58 62]) (C 58 (.seq (R [
 A 63 (.load 17 true (T 4)),
 A 64 (.call id_ip4_fault [(I 7)]),
 B (.store 17 true (T 2) (T 63)),
 mv 3 64]) .ret) .skip))))) (.seq (R [
 ld 65 1,
 A 66 (.idxStr (T 65) (I 1)),
 A 67 (.conv .i64 (T 66)),
 mv 68 6,
 A 69 (.callv (T 68) [(I 4)]),
 ld 70 1,
 A 71 (.idxStr (T 70) (I 8)),
 A 72 (.conv .i64 (T 71)),
 ld 73 1,
 A 74 (.idxStr (T 73) (I 9)),
 A 75 (.conv .i64 (T 74)),
 mv 76 8,
 bI 77 .and 76 8191,
 bI 78 .mul 77 8,
 mv 79 8,
 bI 80 .and 79 16384,
 bI 81 .neq 80 0,
 mv 82 8,
 bI 83 .and 82 8192,
 bI 84 .neq 83 0,
 ld 85 1,
 mv 86 5,
 A 87 (.slc 0 (T 85) (some (I 20)) (some (T 86))),
 ld 88 1,
 mv 89 5,
 mv 90 7,
 A 91 (.slc 0 (T 88) (some (T 89)) (some (T 90))),
 A 92 (.build (LV.agg [(LV.int .i64 0), (LV.int .i64 0), (LV.int .i64 0), (LV.int .i64 0), (LV.int .i64 0), (LV.bool false), (LV.bool false), (LV.bytes [0, 0, 0, 0]), (LV.bytes [0, 0, 0, 0]), (LV.str []), (LV.str [])]) [(0, (T 67)), (1, (T 69)), (2, (T 72)), (3, (T 75)), (4, (T 78)), (5, (T 81)), (6, (T 84)), (9, (T 87)), (10, (T 91))]),
 A 9 (.alloc (LV.agg [(LV.int .i64 0), (LV.int .i64 0), (LV.int .i64 0), (LV.int .i64 0), (LV.int .i64 0), (LV.bool false), (LV.bool false), (LV.bytes [0, 0, 0, 0]), (LV.bytes [0, 0, 0, 0]), (LV.str []), (LV.str [])])),
 B (.store 17 true (T 9) (T 92))]) (.seq (R [
 fa 93 7 7 9,
 A 94 (.slcArr 4 (T 93) none none),
 ld 95 1,
 A 96 (.slc 0 (T 95) (some (I 12)) none),
 A 97 (.copy (T 94) (T 96))]) (.seq (R [
 fa 98 8 11 9,
 A 99 (.slcArr 4 (T 98) none none),
 ld 100 1,
 A 101 (.slc 0 (T 100) (some (I 16)) none),
 A 102 (.copy (T 99) (T 101))]) (.seq (.seq (R [
 mv 103 8,
 bI 104 .and 103 32768,
 bI 105 .neq 104 0,
 mv 106 105,
 W 107 106 false (.load 17 true (T 9)),
 W 108 106 false (.call id_ip4_why [(T 107)]),
 W 109 106 false (.bin .neq (T 108) (I 0)),
 kF 110 106 109]) (C 110 (.seq (R [
 A 111 (.load 17 true (T 4)),
 A 112 (.call id_ip4_fault [(I 8)]),
 B (.store 17 true (T 2) (T 111)),
 mv 3 112]) .ret) .skip)) (.seq (R [
 A 113 (.load 17 true (T 9)),
 B (.store 17 true (T 2) (T 113)),
 A 3 (.mov (.cst LV.nili))]) .ret))))))))))))), [.cell 2 17 true, .tmp 3]⟩
def c_interpreterlaw15_bare : MFn := ⟨1, 14, (.seq (R [
 A 2 (.mov (.cst (LV.bool false)))]) (.seq (.seq (R [
 mI 3 0]) (.block 0 (.loop [2, 3] [4, 5, 6, 7, 10, 11, 12, 13, 8, 9] (.seq (.seq (R [
 mv 4 3,
 mv 5 0,
 lg 6 5,
 bT 7 .lss 4 6]) (C 7 .skip (.exit 0))) (.seq (.block 1 (.seq (R [
 mv 10 0,
 mv 11 3,
 A 12 (.idxStr (T 10) (T 11)),
 A 13 (.bin .neq (T 12) (.cst (LV.int .u8 0)))]) (C 13 (.seq (R [
 A 2 (.mov (.cst (LV.bool false)))]) .ret) .skip))) (R [
 mv 8 3,
 bI 9 .add 8 1,
 mv 3 9])))))) (.seq (R [
 A 2 (.mov (.cst (LV.bool true)))]) .ret))), [.tmp 2]⟩
def c_interpreterref03_Bytes : MFn := ⟨1, 115, (.seq (R [
 A 1 (.box (T 0)),
 A 2 (.mov (.cst (LV.str []))),
 mI 3 0]) (.seq (R [
 A 12 (.load 17 true (T 1)),
 A 13 (.call id_interpreterref03_Why [(T 12)]),
 mv 4 13]) (.seq (.seq (R [
 mv 14 4,
 bI 15 .neq 14 0]) (C 15 (.seq (R [
 mv 16 4,
 A 2 (.mov (.cst (LV.str []))),
 mv 3 16]) .ret) .skip)) (.seq (R [
 fa 17 9 15 1,
 ld 18 17,
 lg 19 18,
 A 20 (.bin .add (I 20) (T 19)),
 mv 5 20]) (.seq (R [
 fa 21 4 4 1,
 ld 22 21,
 bI 23 .quo 22 8,
 mv 6 23]) (.seq (.seq (R [
 fa 24 6 6 1,
 ld 25 24]) (C 25 (R [
 mv 26 6,
 bI 27 .add 26 8192,
 mv 6 27]) .skip)) (.seq (.seq (R [
 fa 28 5 5 1,
 ld 29 28]) (C 29 (R [
 mv 30 6,
 bI 31 .add 30 16384,
 mv 6 31]) .skip)) (.seq (R [
 mv 32 5,
 fa 33 10 16 1,
 ld 34 33,
 lg 35 34,
 bT 36 .add 32 35,
 mv 7 36]) (.seq (R [
 mv 37 5,
 bI 38 .quo 37 4,
 A 39 (.bin .add (I 64) (T 38)),
 A 40 (.conv .u8 (T 39)),
 fa 41 0 0 1,
 ld 42 41,
 A 43 (.conv .u8 (T 42)),
 mv 44 7,
 bI 45 .quo 44 256,
 A 46 (.conv .u8 (T 45)),
 mv 47 7,
 bI 48 .rem 47 256,
 A 49 (.conv .u8 (T 48)),
 fa 50 1 1 1,
 ld 51 50,
 bI 52 .quo 51 256,
 A 53 (.conv .u8 (T 52)),
 fa 54 1 1 1,
 ld 55 54,
 bI 56 .rem 55 256,
 A 57 (.conv .u8 (T 56)),
 mv 58 6,
 bI 59 .quo 58 256,
 A 60 (.conv .u8 (T 59)),
 mv 61 6,
 bI 62 .rem 61 256,
 A 63 (.conv .u8 (T 62)),
 fa 64 2 2 1,
 ld 65 64,
 A 66 (.conv .u8 (T 65)),
 fa 67 3 3 1,
 ld 68 67,
 A 69 (.conv .u8 (T 68)),
 A 70 (.bslM 12 [(0, (T 40)), (1, (T 43)), (2, (T 46)), (3, (T 49)), (4, (T 53)), (5, (T 57)), (6, (T 60)), (7, (T 63)), (8, (T 66)), (9, (T 69)), (10, (.cst (LV.int .u8 0))), (11, (.cst (LV.int .u8 0)))]),
 mv 8 70]) (.seq (.seq (R [
 mI 9 0]) (.block 0 (.loop [8, 9] [71, 72, 75, 76, 77, 78, 79, 80, 81, 73, 74] (.seq (.seq (R [
 mv 71 9,
 bI 72 .lss 71 4]) (C 72 .skip (.exit 0))) (.seq (.block 1 (R [
 mv 75 8,
 mv 76 9,
 fa 77 7 7 1,
 A 78 (.idxAddr (some 4) 1 (T 77) (T 76)),
 ld 79 78,
 A 80 (.bsl (LV.int .u8 0) 1 [(0, (T 79))]),
 A 81 (.append 1 1 (T 75) (T 80)),
 mv 8 81])) (R [
 mv 73 9,
 bI 74 .add 73 1,
 mv 9 74])))))) (.seq (.seq (R [
 mI 10 0]) (.block 2 (.loop [8, 10] [82, 83, 86, 87, 88, 89, 90, 91, 92, 84, 85] (.seq (.seq (R [
 mv 82 10,
 bI 83 .lss 82 4]) (C 83 .skip (.exit 2))) (.seq (.block 3 (R [
 mv 86 8,
 mv 87 10,
 fa 88 8 11 1,
 A 89 (.idxAddr (some 4) 1 (T 88) (T 87)),
 ld 90 89,
 A 91 (.bsl (LV.int .u8 0) 1 [(0, (T 90))]),
 A 92 (.append 1 1 (T 86) (T 91)),
 mv 8 92])) (R [
 mv 84 10,
 bI 85 .add 84 1,
 mv 10 85])))))) (.seq (R [
 mv 93 8,
 fa 94 9 15 1,
 ld 95 94,
 A 96 (.append 1 1 (T 93) (T 95)),
 mv 8 96]) (.seq (R [
 mv 97 8,
 A 98 (.b2s (T 97)),
 A 99 (.call id_interpreterref02_Of [(T 98)]),
 mv 11 99]) (.seq (R [
 mv 100 8,
 mv 101 11,
 bI 102 .quo 101 256,
 A 103 (.conv .u8 (T 102)),
 A 104 (.idxAddr none 1 (T 100) (I 10)),
 B (.store 1 false (T 104) (T 103))]) (.seq (R [
 mv 105 8,
 mv 106 11,
 bI 107 .rem 106 256,
 A 108 (.conv .u8 (T 107)),
 A 109 (.idxAddr none 1 (T 105) (I 11)),
 B (.store 1 false (T 109) (T 108))]) (.seq (R [
 mv 110 8,
 A 111 (.b2s (T 110)),
 fa 112 10 16 1,
 ld 113 112,
 bT 114 .add 111 113,
 mv 2 114,
 mI 3 0]) .ret)))))))))))))))), [.tmp 2, .tmp 3]⟩
def c_interpreterlaw15_gram : MFn := ⟨1, 8, (.seq (R [
 A 2 (.alloc (LV.agg [(LV.int .i64 0), (LV.int .i64 0), (LV.int .i64 0), (LV.int .i64 0), (LV.int .i64 0), (LV.bool false), (LV.bool false), (LV.bytes [0, 0, 0, 0]), (LV.bytes [0, 0, 0, 0]), (LV.str []), (LV.str [])]))]) (.seq (R [
 A 3 (.build (LV.bytes [0, 0, 0, 0]) [(0, (.cst (LV.int .u8 192))), (1, (.cst (LV.int .u8 0))), (2, (.cst (LV.int .u8 2))), (3, (.cst (LV.int .u8 1)))]),
 A 4 (.build (LV.bytes [0, 0, 0, 0]) [(0, (.cst (LV.int .u8 192))), (1, (.cst (LV.int .u8 0))), (2, (.cst (LV.int .u8 2))), (3, (.cst (LV.int .u8 2)))]),
 mv 5 0,
 A 6 (.call id_strings_Repeat [(.cst (LV.str [120])), (T 5)]),
 A 7 (.build (LV.agg [(LV.int .i64 0), (LV.int .i64 0), (LV.int .i64 0), (LV.int .i64 0), (LV.int .i64 0), (LV.bool false), (LV.bool false), (LV.bytes [0, 0, 0, 0]), (LV.bytes [0, 0, 0, 0]), (LV.str []), (LV.str [])]) [(2, (I 9)), (3, (I 17)), (7, (T 3)), (8, (T 4)), (10, (T 6))]),
 B (.store 17 true (T 2) (T 7))]) .ret)), [.cell 2 17 true]⟩
def c_fault_Own4 : MFn := ⟨5, 114, (.seq (R [
 A 5 (.boxM (T 0)),
 A 7 (.box (T 2)),
 A 10 (.mov (.cst (LV.str []))),
 A 11 (.mov (.cst (LV.bool false)))]) (.seq (R [
 mv 20 1,
 A 21 (.call id_ip4_Parse [(T 20)]),
 mv 19 21,
 xt 22 19 0,
 xt 23 19 1,
 A 12 (.alloc (LV.agg [(LV.int .i64 0), (LV.int .i64 0), (LV.int .i64 0), (LV.int .i64 0), (LV.int .i64 0), (LV.bool false), (LV.bool false), (LV.bytes [0, 0, 0, 0]), (LV.bytes [0, 0, 0, 0]), (LV.str []), (LV.str [])])),
 B (.store 17 true (T 12) (T 22)),
 mv 13 23]) (.seq (.block 0 (.seq (R [
 mv 25 13,
 A 26 (.eqNil 1 true (T 25)),
 mv 27 26,
 W 28 27 false (.load 4 true (T 5)),
 W 29 27 false (.call id_icmp4_Failure [(T 28)]),
 W 30 27 false (.un .not (T 29)),
 kF 31 27 30,
 mv 32 31,
 wf 33 32 false 4 4 12,
 wl 34 32 false 33,
 W 35 32 false (.bin .gtr (T 34) (I 0)),
 kF 36 32 35,
 mv 37 36,
 wf 38 37 false 7 7 12,
 W 39 37 false (.load 4 true (T 38)),
 W 40 37 false (.call id_class_Martian4 [(T 39)]),
 kF 41 37 40,
 mv 42 41,
 wm 43 42 false 4,
 W 44 42 false (.bin .lss (T 43) (I 68)),
 kF 45 42 44,
 mv 46 45,
 wm 47 46 false 4,
 W 48 46 false (.bin .gtr (T 47) (I 65535)),
 kF 49 46 48,
 mv 24 49]) (C 24 (.seq (R [
 A 10 (.mov (.cst (LV.str []))),
 A 11 (.mov (.cst (LV.bool false)))]) .ret) (.seq (R [
 fa 51 3 3 12,
 ld 52 51,
 bI 53 .eql 52 1,
 mv 54 53,
 wf 55 54 true 10 16 12,
 wl 56 54 true 55,
 W 57 54 true (.bin .eql (T 56) (.cst (LV.str []))),
 wm 58 54 true 57,
 wf 59 58 false 10 16 12,
 wl 60 58 false 59,
 W 61 58 false (.idxStr (T 60) (I 0)),
 W 62 58 false (.conv .i64 (T 61)),
 W 63 58 false (.build (LV.agg [(LV.int .i64 0), (LV.int .i64 0), (LV.int .u32 0), (LV.str [])]) [(0, (T 62))]),
 W 64 58 false (.call id_icmp4_Failure [(T 63)]),
 W 65 54 true (.pick (T 58) (.cst (LV.bool true)) (T 64)),
 kT 66 54 65,
 mv 50 66]) (C 50 (.seq (R [
 A 10 (.mov (.cst (LV.str []))),
 A 11 (.mov (.cst (LV.bool false)))]) .ret) .skip))))) (.seq (R [
 fa 67 9 15 12,
 ld 68 67,
 lg 69 68,
 A 70 (.bin .add (I 20) (T 69)),
 mv 14 70]) (.seq (R [
 mv 72 1,
 mv 73 14,
 fa 74 10 16 12,
 ld 75 74,
 lg 76 75,
 bT 77 .add 73 76,
 A 78 (.slc 0 (T 72) none (some (T 77))),
 mv 79 14,
 mv 80 4,
 A 81 (.minmax false (I 576) [(T 80)]),
 bI 82 .sub 81 20,
 bI 83 .sub 82 8,
 A 84 (.call id_fault_beginning [(T 78), (T 79), (T 83)]),
 mv 71 84,
 xt 85 71 0,
 xt 86 71 1,
 mv 15 85,
 mv 16 86]) (.seq (R [
 mv 87 15,
 fa 88 3 3 5,
 B (.store 1 false (T 88) (T 87))]) (.seq (R [
 A 90 (.load 4 true (T 5)),
 A 91 (.call id_icmp4_Bytes [(T 90)]),
 mv 89 91,
 xt 92 89 0,
 xt 93 89 1,
 mv 17 92,
 mv 13 93]) (.seq (.seq (R [
 mv 94 16,
 A 95 (.un .not (T 94)),
 mv 96 95,
 wm 97 96 false 13,
 W 98 96 false (.eqNil 1 true (T 97)),
 kF 99 96 98]) (C 99 (.seq (R [
 A 10 (.mov (.cst (LV.str []))),
 A 11 (.mov (.cst (LV.bool false)))]) .ret) .skip)) (.seq (R [
 mv 101 3,
 bI 102 .and 101 65535,
 A 103 (.load 4 true (T 7)),
 fa 104 7 7 12,
 A 105 (.load 4 true (T 104)),
 mv 106 17,
 A 107 (.build (LV.agg [(LV.int .i64 0), (LV.int .i64 0), (LV.int .i64 0), (LV.int .i64 0), (LV.int .i64 0), (LV.bool false), (LV.bool false), (LV.bytes [0, 0, 0, 0]), (LV.bytes [0, 0, 0, 0]), (LV.str []), (LV.str [])]) [(1, (T 102)), (2, (I 64)), (3, (I 1)), (7, (T 103)), (8, (T 105)), (10, (T 106))]),
 A 108 (.call id_ip4_Bytes [(T 107)]),
 mv 100 108,
 xt 109 100 0,
 xt 110 100 1,
 mv 18 109,
 mv 13 110]) (.seq (R [
 mv 111 18,
 mv 112 13,
 A 113 (.eqNil 1 false (T 112)),
 mv 10 111,
 mv 11 113]) .ret)))))))))), [.tmp 10, .tmp 11]⟩
def c_interpreterref03_Parse : MFn := ⟨1, 108, (.seq (R [
 A 2 (.alloc (LV.agg [(LV.int .i64 0), (LV.int .i64 0), (LV.int .i64 0), (LV.int .i64 0), (LV.int .i64 0), (LV.bool false), (LV.bool false), (LV.bytes [0, 0, 0, 0]), (LV.bytes [0, 0, 0, 0]), (LV.str []), (LV.str [])])),
 mI 3 0]) (.seq (R [
 A 10 (.build (LV.agg [(LV.int .i64 0), (LV.int .i64 0), (LV.int .i64 0), (LV.int .i64 0), (LV.int .i64 0), (LV.bool false), (LV.bool false), (LV.bytes [0, 0, 0, 0]), (LV.bytes [0, 0, 0, 0]), (LV.str []), (LV.str [])]) []),
 A 4 (.alloc (LV.agg [(LV.int .i64 0), (LV.int .i64 0), (LV.int .i64 0), (LV.int .i64 0), (LV.int .i64 0), (LV.bool false), (LV.bool false), (LV.bytes [0, 0, 0, 0]), (LV.bytes [0, 0, 0, 0]), (LV.str []), (LV.str [])])),
 B (.store 17 true (T 4) (T 10))]) (.seq (.seq (R [
 mv 11 0,
 lg 12 11,
 bI 13 .lss 12 20]) (C 13 (.seq (R [
 A 14 (.load 17 true (T 4)),
 B (.store 17 true (T 2) (T 14)),
 mI 3 7]) .ret) .skip)) (.seq (R [
 mv 15 0,
 A 16 (.idxStr (T 15) (I 0)),
 A 17 (.conv .i64 (T 16)),
 bI 18 .sub 17 64,
 A 19 (.bin .mul (I 4) (T 18)),
 mv 5 19]) (.seq (.seq (R [
 mv 20 5,
 bI 21 .lss 20 20,
 mv 22 21,
 wm 23 22 false 5,
 W 24 22 false (.bin .gtr (T 23) (I 60)),
 kF 25 22 24]) (C 25 (.seq (R [
 A 26 (.load 17 true (T 4)),
 B (.store 17 true (T 2) (T 26)),
 mI 3 8]) .ret) .skip)) (.seq (.seq (R [
 mv 27 0,
 lg 28 27,
 mv 29 5,
 bT 30 .lss 28 29]) (C 30 (.seq (R [
 A 31 (.load 17 true (T 4)),
 B (.store 17 true (T 2) (T 31)),
 mI 3 7]) .ret) .skip)) (.seq (.seq (R [
 mv 32 0,
 mv 33 5,
 A 34 (.slc 0 (T 32) none (some (T 33))),
 A 35 (.call id_interpreterref02_Of [(T 34)]),
 bI 36 .neq 35 0]) (C 36 (.seq (R [
 A 37 (.load 17 true (T 4)),
 B (.store 17 true (T 2) (T 37)),
 mI 3 9]) .ret) .skip)) (.seq (R [
 mv 38 0,
 A 39 (.call id_interpreterref03_number [(T 38), (I 2)]),
 mv 6 39]) (.seq (.seq (R [
 mv 40 6,
 mv 41 5,
 bT 42 .lss 40 41]) (C 42 (.seq (R [
 A 43 (.load 17 true (T 4)),
 B (.store 17 true (T 2) (T 43)),
 mI 3 8]) .ret) .skip)) (.seq (.seq (R [
 mv 44 0,
 lg 45 44,
 mv 46 6,
 bT 47 .lss 45 46]) (C 47 (.seq (R [
 A 48 (.load 17 true (T 4)),
 B (.store 17 true (T 2) (T 48)),
 mI 3 7]) .ret) .skip)) (.seq (R [
 mv 49 0,
 A 50 (.call id_interpreterref03_number [(T 49), (I 6)]),
 mv 7 50]) (.seq (R [
 mv 51 0,
 A 52 (.idxStr (T 51) (I 1)),
 A 53 (.conv .i64 (T 52)),
 mv 54 0,
 A 55 (.call id_interpreterref03_number [(T 54), (I 4)]),
 mv 56 0,
 A 57 (.idxStr (T 56) (I 8)),
 A 58 (.conv .i64 (T 57)),
 mv 59 0,
 A 60 (.idxStr (T 59) (I 9)),
 A 61 (.conv .i64 (T 60)),
 mv 62 7,
 bI 63 .rem 62 8192,
 bI 64 .mul 63 8,
 mv 65 7,
 bI 66 .quo 65 16384,
 bI 67 .rem 66 2,
 bI 68 .eql 67 1,
 mv 69 7,
 bI 70 .quo 69 8192,
 bI 71 .rem 70 2,
 bI 72 .eql 71 1,
 mv 73 0,
 mv 74 5,
 A 75 (.slc 0 (T 73) (some (I 20)) (some (T 74))),
 mv 76 0,
 mv 77 5,
 mv 78 6,
 A 79 (.slc 0 (T 76) (some (T 77)) (some (T 78))),
 A 80 (.build (LV.agg [(LV.int .i64 0), (LV.int .i64 0), (LV.int .i64 0), (LV.int .i64 0), (LV.int .i64 0), (LV.bool false), (LV.bool false), (LV.bytes [0, 0, 0, 0]), (LV.bytes [0, 0, 0, 0]), (LV.str []), (LV.str [])]) [(0, (T 53)), (1, (T 55)), (2, (T 58)), (3, (T 61)), (4, (T 64)), (5, (T 68)), (6, (T 72)), (9, (T 75)), (10, (T 79))]),
 A 8 (.alloc (LV.agg [(LV.int .i64 0), (LV.int .i64 0), (LV.int .i64 0), (LV.int .i64 0), (LV.int .i64 0), (LV.bool false), (LV.bool false), (LV.bytes [0, 0, 0, 0]), (LV.bytes [0, 0, 0, 0]), (LV.str []), (LV.str [])])),
 B (.store 17 true (T 8) (T 80))]) (.seq (.seq (R [
 mI 9 0]) (.block 0 (.loop [9] [81, 82, 85, 86, 87, 88, 89, 90, 91, 92, 93, 94, 95, 96, 97, 98, 83, 84] (.seq (.seq (R [
 mv 81 9,
 bI 82 .lss 81 4]) (C 82 .skip (.exit 0))) (.seq (.block 1 (.seq (R [
 mv 85 9,
 mv 86 0,
 mv 87 9,
 A 88 (.bin .add (I 12) (T 87)),
 A 89 (.idxStr (T 86) (T 88)),
 fa 90 7 7 8,
 A 91 (.idxAddr (some 4) 1 (T 90) (T 85)),
 B (.store 1 false (T 91) (T 89))]) (R [
 mv 92 9,
 mv 93 0,
 mv 94 9,
 A 95 (.bin .add (I 16) (T 94)),
 A 96 (.idxStr (T 93) (T 95)),
 fa 97 8 11 8,
 A 98 (.idxAddr (some 4) 1 (T 97) (T 92)),
 B (.store 1 false (T 98) (T 96))]))) (R [
 mv 83 9,
 bI 84 .add 83 1,
 mv 9 84])))))) (.seq (.seq (R [
 mv 99 7,
 bI 100 .geq 99 32768,
 mv 101 100,
 W 102 101 false (.load 17 true (T 8)),
 W 103 101 false (.call id_interpreterref03_Why [(T 102)]),
 W 104 101 false (.bin .neq (T 103) (I 0)),
 kF 105 101 104]) (C 105 (.seq (R [
 A 106 (.load 17 true (T 4)),
 B (.store 17 true (T 2) (T 106)),
 mI 3 8]) .ret) .skip)) (.seq (R [
 A 107 (.load 17 true (T 8)),
 B (.store 17 true (T 2) (T 107)),
 mI 3 0]) .ret))))))))))))))), [.cell 2 17 true, .tmp 3]⟩
def c_fault_fault : MFn := ⟨1, 7, (.seq (R [
 A 2 (.mov (.cst LV.nili))]) (.seq (R [
 mv 3 0,
 A 4 (.build (LV.agg [(LV.int .i64 0), (LV.int .i64 0)]) [(0, (T 3))]),
 A 5 (.box (T 4)),
 A 6 (.mkIface ty_ptr_num_Fault (T 5)),
 mv 2 6]) .ret)), [.tmp 2]⟩
def c_sum_Right : MFn := ⟨1, 6, (.seq (R [
 A 2 (.mov (.cst (LV.bool false)))]) (.seq (R [
 mv 3 0,
 A 4 (.call id_sum_Of [(T 3)]),
 bI 5 .eql 4 0,
 mv 2 5]) .ret)), [.tmp 2]⟩
def c_fault_Inside4_1 : MFn := ⟨2, 15, (.seq (R [
 mI 3 0]) (.seq (R [
 ld 4 1,
 mv 5 0,
 A 6 (.idxStr (T 4) (T 5)),
 A 7 (.conv .i64 (T 6)),
 A 8 (.bin .shl (T 7) (.cst (LV.int .u64 8))),
 ld 9 1,
 mv 10 0,
 bI 11 .add 10 1,
 A 12 (.idxStr (T 9) (T 11)),
 A 13 (.conv .i64 (T 12)),
 bT 14 .or 8 13,
 mv 3 14]) .ret)), [.tmp 3]⟩
def c_fault_short : MFn := ⟨2, 10, (.seq (R [
 A 4 (.mov (.cst (LV.bool false)))]) (.seq (R [
 mv 5 0,
 lg 6 5,
 mv 7 1,
 A 8 (.minmax false (I 8) [(T 7)]),
 bT 9 .lss 6 8,
 mv 4 9]) .ret)), [.tmp 4]⟩
def c_head46_Proto : MFn := ⟨1, 21, (.seq (R [
 mI 2 0,
 A 3 (.mov (.cst (LV.bool false)))]) (.seq (.seq (R [
 mv 4 0]) (.block 0 (.seq (R [
 bI 6 .eql 4 1,
 mv 5 6]) (C 5 (.seq (R [
 mI 2 58,
 A 3 (.mov (.cst (LV.bool true)))]) .ret) (.seq (.seq (R [
 bI 8 .eql 4 0,
 mv 7 8]) (C 7 .skip (.seq (R [
 bI 9 .eql 4 2,
 mv 7 9]) (C 7 .skip (.seq (R [
 bI 10 .eql 4 43,
 mv 7 10]) (C 7 .skip (.seq (R [
 bI 11 .eql 4 44,
 mv 7 11]) (C 7 .skip (.seq (R [
 bI 12 .eql 4 58,
 mv 7 12]) (C 7 .skip (R [
 bI 13 .eql 4 60,
 mv 7 13]))))))))))) (C 7 (.seq (R [
 mI 2 0,
 A 3 (.mov (.cst (LV.bool false)))]) .ret) .skip)))))) (.seq (.seq (R [
 mv 14 0,
 bI 15 .lss 14 0,
 mv 16 15,
 wm 17 16 false 0,
 W 18 16 false (.bin .gtr (T 17) (I 255)),
 kF 19 16 18]) (C 19 (.seq (R [
 mI 2 0,
 A 3 (.mov (.cst (LV.bool false)))]) .ret) .skip)) (.seq (R [
 mv 20 0,
 mv 2 20,
 A 3 (.mov (.cst (LV.bool true)))]) .ret)))), [.tmp 2, .tmp 3]⟩
def c_fault_within : MFn := ⟨2, 21, (.seq (R [
 A 4 (.mov (.cst (LV.bool false)))]) (.seq (.seq (R [
 mv 7 1,
 A 8 (.len false (T 7)),
 mI 9 0]) (.block 0 (.loop [4, 9] [10, 11, 12, 6, 13, 14, 15, 16, 17, 18, 19, 20] (.seq (R [
 bT 10 .lss 9 8]) (.seq (C 10 .skip (.exit 0)) (.seq (.block 1 (.seq (R [
 A 11 (.idxAddr none 1 (T 7) (T 9)),
 ld 12 11,
 mv 6 12]) (.seq (R [
 mv 13 6,
 bI 14 .lss 13 0,
 mv 15 14,
 wm 16 15 false 6,
 wm 17 15 false 0,
 W 18 15 false (.bin .gtr (T 16) (T 17)),
 kF 19 15 18]) (C 19 (.seq (R [
 A 4 (.mov (.cst (LV.bool false)))]) .ret) .skip)))) (R [
 bI 20 .add 9 1,
 mv 9 20]))))))) (.seq (R [
 A 4 (.mov (.cst (LV.bool true)))]) .ret))), [.tmp 4]⟩
def c_fault_big : MFn := ⟨2, 14, (.seq (R [
 A 4 (.mov (.cst (LV.str [])))]) (.seq (R [
 mv 8 0,
 mv 9 1,
 A 10 (.call id_num_Big [(T 8), (T 9)]),
 mv 7 10,
 xt 11 7 0,
 xt 12 7 1,
 mv 5 11,
 mv 6 12]) (.seq (R [
 mv 13 5,
 mv 4 13]) .ret))), [.tmp 4]⟩
def c_fault_turn6 : MFn := ⟨4, 84, (.seq (R [
 A 4 (.box (T 0)),
 A 6 (.box (T 2)),
 A 7 (.box (T 3)),
 A 8 (.mov (.cst (LV.str [])))]) (.seq (.block 0 (.seq (R [
 fa 11 4 4 4,
 ld 12 11,
 bI 13 .gtr 12 0,
 mv 10 13]) (C 10 .skip (.seq (R [
 fa 15 3 3 4,
 ld 16 15,
 bI 17 .eql 16 6,
 mv 18 17,
 wf 19 18 false 3 3 4,
 wl 20 18 false 19,
 W 21 18 false (.bin .eql (T 20) (I 17)),
 kF 22 18 21,
 mv 14 22]) (C 14 (.seq (R [
 fa 23 3 3 4,
 ld 24 23,
 fa 25 10 16 4,
 ld 26 25,
 fa 27 7 7 4,
 A 28 (.slcArr 4 (T 27) none none),
 A 29 (.b2s (T 28)),
 fa 30 8 11 4,
 A 31 (.slcArr 4 (T 30) none none),
 A 32 (.b2s (T 31)),
 bT 33 .add 29 32,
 fa 34 0 0 6,
 A 35 (.slcArr 16 (T 34) none none),
 A 36 (.b2s (T 35)),
 fa 37 0 0 7,
 A 38 (.slcArr 16 (T 37) none none),
 A 39 (.b2s (T 38)),
 bT 40 .add 36 39,
 fa 41 1 16 6,
 ld 42 41,
 fa 43 1 16 7,
 ld 44 43,
 A 45 (.call id_fault_ported [(T 24), (T 26), (T 33), (T 40), (T 42), (T 44)]),
 mv 8 45]) .ret) (.seq (R [
 fa 47 3 3 4,
 ld 48 47,
 bI 49 .eql 48 1,
 mv 50 49,
 wf 51 50 true 10 16 4,
 wl 52 50 true 51,
 W 53 50 true (.len true (T 52)),
 W 54 50 true (.bin .geq (T 53) (I 8)),
 kT 55 50 54,
 mv 46 55]) (C 46 (.seq (R [
 A 56 (.mapNew),
 B (.mapIns (some .u8) (T 56) (.cst (LV.int .u8 8)) (I 128)),
 B (.mapIns (some .u8) (T 56) (.cst (LV.int .u8 0)) (I 129)),
 mv 57 56,
 fa 58 10 16 4,
 ld 59 58,
 A 60 (.idxStr (T 59) (I 0)),
 A 61 (.mapGet (some .u8) (LV.int .i64 0) false (T 57) (T 60)),
 mv 9 61]) (.seq (R [
 mv 62 9,
 bI 63 .gtr 62 0,
 mv 64 63,
 wf 65 64 true 10 16 4,
 wl 66 64 true 65,
 W 67 64 true (.idxStr (T 66) (I 1)),
 W 68 64 true (.bin .eql (T 67) (.cst (LV.int .u8 0))),
 kT 69 64 68]) (C 69 (.seq (R [
 fa 70 10 16 4,
 ld 71 70,
 fa 72 0 0 6,
 A 73 (.load 16 true (T 72)),
 fa 74 0 0 7,
 A 75 (.load 16 true (T 74)),
 mv 76 1,
 A 77 (.call id_sum_Pseudo6 [(T 73), (T 75), (I 58), (T 76)]),
 mv 78 9,
 fa 79 1 16 6,
 ld 80 79,
 A 81 (.call id_fault_echoed [(T 71), (.cst (LV.str [])), (T 77), (T 78), (T 80)]),
 mv 8 81]) .ret) .skip))) .skip))))))) (.seq (R [
 fa 82 10 16 4,
 ld 83 82,
 mv 8 83]) .ret))), [.tmp 8]⟩
def c_ip6_fault : MFn := ⟨1, 7, (.seq (R [
 A 2 (.mov (.cst LV.nili))]) (.seq (R [
 mv 3 0,
 A 4 (.build (LV.agg [(LV.int .i64 0), (LV.int .i64 0)]) [(0, (T 3))]),
 A 5 (.box (T 4)),
 A 6 (.mkIface ty_ptr_num_Fault (T 5)),
 mv 2 6]) .ret)), [.tmp 2]⟩
def c_num_New : MFn := ⟨1, 6, (.seq (R [
 A 2 (.mov (.cst LV.nilp))]) (.seq (R [
 mv 3 0,
 A 4 (.build (LV.agg [(LV.str []), (LV.int .i64 0), LV.nilp]) [(0, (T 3))]),
 A 5 (.boxM (T 4)),
 mv 2 5]) .ret)), [.tmp 2]⟩
def c_num_Reader_U32 : MFn := ⟨1, 8, (.seq (R [
 mI 2 0,
 A 3 (.mov (.cst LV.nili))]) (.seq (R [
 mv 4 0,
 A 5 (.callRw id_num_Reader_number [(T 4), (I 4)]),
 xt 6 5 0,
 xt 7 5 1,
 mv 2 6,
 mv 3 7]) .ret)), [.tmp 2, .tmp 3]⟩
def c_ip6_Chain : MFn := ⟨2, 59, (.seq (R [
 A 4 (.mov (.cst LV.nils)),
 mI 5 0,
 A 6 (.mov (.cst (LV.str []))),
 A 7 (.mov (.cst LV.nili))]) (.seq (.block 0 (.loop [4, 5, 6, 7, 0, 1] [10, 11, 8, 9, 12, 13, 14, 15, 16, 17, 18, 19, 20, 22, 23, 24, 25, 26, 27, 28, 21, 30, 31, 32, 29, 34, 35, 36, 37, 33, 38, 39, 40, 41, 42, 43, 44, 45, 46, 47, 48, 49, 50, 51, 52, 53, 54, 55] (.seq (.seq (R [
 mv 10 0,
 A 11 (.call id_ip6_extends [(T 10)])]) (C 11 .skip (.exit 0))) (.block 1 (.seq (R [
 mI 8 0]) (.seq (R [
 mI 9 8]) (.seq (.seq (R [
 mv 12 1,
 lg 13 12,
 bI 14 .geq 13 2]) (C 14 (R [
 mv 15 9,
 mv 16 1,
 A 17 (.idxStr (T 16) (I 1)),
 A 18 (.conv .i64 (T 17)),
 bI 19 .mul 18 8,
 bT 20 .add 15 19,
 mv 9 20]) .skip)) (.seq (.block 2 (.seq (R [
 mv 22 0,
 bI 23 .eql 22 0,
 mv 24 23,
 wm 25 24 true 4,
 W 26 24 true (.len false (T 25)),
 W 27 24 true (.bin .gtr (T 26) (I 0)),
 kT 28 24 27,
 mv 21 28]) (C 21 (R [
 mI 8 8]) (.seq (R [
 mv 30 4,
 A 31 (.len false (T 30)),
 bI 32 .geq 31 8,
 mv 29 32]) (C 29 (R [
 mI 8 3]) (.seq (R [
 mv 34 1,
 lg 35 34,
 mv 36 9,
 bT 37 .lss 35 36,
 mv 33 37]) (C 33 (R [
 mI 8 7]) .skip))))))) (.seq (.seq (R [
 mv 38 8,
 bI 39 .neq 38 0]) (C 39 (.seq (R [
 mv 40 8,
 A 41 (.call id_ip6_fault [(T 40)]),
 A 4 (.mov (.cst LV.nils)),
 mI 5 0,
 A 6 (.mov (.cst (LV.str []))),
 mv 7 41]) .ret) .skip)) (.seq (R [
 mv 42 4,
 mv 43 0,
 mv 44 1,
 mv 45 9,
 A 46 (.slc 0 (T 44) (some (I 2)) (some (T 45))),
 A 47 (.build (LV.agg [(LV.int .i64 0), (LV.str [])]) [(0, (T 43)), (1, (T 46))]),
 A 48 (.bsl (LV.agg [(LV.int .i64 0), (LV.str [])]) 1 [(0, (T 47))]),
 A 49 (.append 2 24 (T 42) (T 48)),
 mv 4 49]) (R [
 mv 50 1,
 A 51 (.idxStr (T 50) (I 0)),
 A 52 (.conv .i64 (T 51)),
 mv 53 1,
 mv 54 9,
 A 55 (.slc 0 (T 53) (some (T 54)) none),
 mv 0 52,
 mv 1 55]))))))))))) (.seq (R [
 mv 56 4,
 mv 57 0,
 mv 58 1,
 mv 4 56,
 mv 5 57,
 mv 6 58,
 A 7 (.mov (.cst LV.nili))]) .ret))), [.tmp 4, .tmp 5, .tmp 6, .tmp 7]⟩
def c_ip6_pieced : MFn := ⟨1, 18, (.seq (R [
 A 1 (.box (T 0)),
 A 2 (.mov (.cst (LV.bool false)))]) (.seq (R [
 fa 3 9 39 1,
 ld 4 3,
 A 5 (.un .not (T 4)),
 mv 6 5,
 wf 7 6 false 11 41 1,
 wl 8 6 false 7,
 W 9 6 false (.bin .neq (T 8) (.cst (LV.str []))),
 wm 10 6 false 9,
 wf 11 10 true 11 41 1,
 wl 12 10 true 11,
 W 13 10 true (.len true (T 12)),
 W 14 10 true (.bin .rem (T 13) (I 8)),
 W 15 10 true (.bin .eql (T 14) (I 0)),
 W 16 6 false (.pick (T 10) (T 15) (.cst (LV.bool false))),
 kF 17 6 16,
 mv 2 17]) .ret)), [.tmp 2]⟩
def c_tcp_Parse : MFn := ⟨1, 37, (.seq (R [
 A 2 (.alloc (LV.agg [(LV.int .i64 0), (LV.int .i64 0), (LV.int .i64 0), (LV.str [])])),
 A 3 (.mov (.cst LV.nili))]) (.seq (.seq (R [
 mv 5 0,
 lg 6 5,
 bI 7 .lss 6 20]) (C 7 (.seq (R [
 A 8 (.build (LV.agg [(LV.int .i64 0), (LV.int .i64 0), (LV.int .i64 0), (LV.str [])]) []),
 A 9 (.call id_tcp_fault [(I 7)]),
 B (.store 4 true (T 2) (T 8)),
 mv 3 9]) .ret) .skip)) (.seq (R [
 mv 10 0,
 A 11 (.idxStr (T 10) (I 12)),
 A 12 (.bin .shr (T 11) (.cst (LV.int .u64 4))),
 A 13 (.conv .i64 (T 12)),
 bI 14 .mul 13 4,
 mv 4 14]) (.seq (.block 0 (.seq (R [
 mv 16 4,
 bI 17 .lss 16 20,
 mv 15 17]) (C 15 (.seq (R [
 A 18 (.build (LV.agg [(LV.int .i64 0), (LV.int .i64 0), (LV.int .i64 0), (LV.str [])]) []),
 A 19 (.call id_tcp_fault [(I 8)]),
 B (.store 4 true (T 2) (T 18)),
 mv 3 19]) .ret) (.seq (R [
 mv 21 0,
 lg 22 21,
 mv 23 4,
 bT 24 .lss 22 23,
 mv 20 24]) (C 20 (.seq (R [
 A 25 (.build (LV.agg [(LV.int .i64 0), (LV.int .i64 0), (LV.int .i64 0), (LV.str [])]) []),
 A 26 (.call id_tcp_fault [(I 7)]),
 B (.store 4 true (T 2) (T 25)),
 mv 3 26]) .ret) .skip))))) (.seq (R [
 mv 27 0,
 A 28 (.call id_tcp_two [(T 27), (I 0)]),
 mv 29 0,
 A 30 (.call id_tcp_two [(T 29), (I 2)]),
 mv 31 0,
 A 32 (.idxStr (T 31) (I 13)),
 A 33 (.bin .and (T 32) (.cst (LV.int .u8 63))),
 A 34 (.conv .i64 (T 33)),
 mv 35 0,
 A 36 (.build (LV.agg [(LV.int .i64 0), (LV.int .i64 0), (LV.int .i64 0), (LV.str [])]) [(0, (T 28)), (1, (T 30)), (2, (T 34)), (3, (T 35))]),
 B (.store 4 true (T 2) (T 36)),
 A 3 (.mov (.cst LV.nili))]) .ret))))), [.cell 2 4 true, .tmp 3]⟩
def c_tcp_fault : MFn := ⟨1, 7, (.seq (R [
 A 2 (.mov (.cst LV.nili))]) (.seq (R [
 mv 3 0,
 A 4 (.build (LV.agg [(LV.int .i64 0), (LV.int .i64 0)]) [(0, (T 3))]),
 A 5 (.box (T 4)),
 A 6 (.mkIface ty_ptr_num_Fault (T 5)),
 mv 2 6]) .ret)), [.tmp 2]⟩
def c_sum_big : MFn := ⟨2, 19, (.seq (R [
 A 4 (.mov (.cst (LV.str [])))]) (.seq (R [
 mv 8 0,
 mv 9 1,
 A 10 (.bin .mul (I 8) (T 9)),
 A 11 (.bin .shl (I 1) (T 10)),
 bI 12 .sub 11 1,
 bT 13 .and 8 12,
 mv 14 1,
 A 15 (.call id_num_Big [(T 13), (T 14)]),
 mv 7 15,
 xt 16 7 0,
 xt 17 7 1,
 mv 5 16,
 mv 6 17]) (.seq (R [
 mv 18 5,
 mv 4 18]) .ret))), [.tmp 4]⟩
def c_udp_Parse : MFn := ⟨1, 27, (.seq (R [
 A 2 (.alloc (LV.agg [(LV.int .i64 0), (LV.int .i64 0), (LV.int .i64 0), (LV.str [])])),
 A 3 (.mov (.cst LV.nili))]) (.seq (.block 0 (.seq (R [
 mv 5 0,
 lg 6 5,
 bI 7 .lss 6 8,
 mv 4 7]) (C 4 (.seq (R [
 A 8 (.build (LV.agg [(LV.int .i64 0), (LV.int .i64 0), (LV.int .i64 0), (LV.str [])]) []),
 A 9 (.call id_udp_fault [(I 7)]),
 B (.store 4 true (T 2) (T 8)),
 mv 3 9]) .ret) (.seq (R [
 mv 11 0,
 A 12 (.call id_udp_two [(T 11), (I 4)]),
 mv 13 0,
 lg 14 13,
 bT 15 .neq 12 14,
 mv 10 15]) (C 10 (.seq (R [
 A 16 (.build (LV.agg [(LV.int .i64 0), (LV.int .i64 0), (LV.int .i64 0), (LV.str [])]) []),
 A 17 (.call id_udp_fault [(I 8)]),
 B (.store 4 true (T 2) (T 16)),
 mv 3 17]) .ret) .skip))))) (.seq (R [
 mv 18 0,
 A 19 (.call id_udp_two [(T 18), (I 0)]),
 mv 20 0,
 A 21 (.call id_udp_two [(T 20), (I 2)]),
 mv 22 0,
 A 23 (.call id_udp_two [(T 22), (I 6)]),
 mv 24 0,
 A 25 (.slc 0 (T 24) (some (I 8)) none),
 A 26 (.build (LV.agg [(LV.int .i64 0), (LV.int .i64 0), (LV.int .i64 0), (LV.str [])]) [(0, (T 19)), (1, (T 21)), (2, (T 23)), (3, (T 25))]),
 B (.store 4 true (T 2) (T 26)),
 A 3 (.mov (.cst LV.nili))]) .ret))), [.cell 2 4 true, .tmp 3]⟩
def c_udp_fault : MFn := ⟨1, 7, (.seq (R [
 A 2 (.mov (.cst LV.nili))]) (.seq (R [
 mv 3 0,
 A 4 (.build (LV.agg [(LV.int .i64 0), (LV.int .i64 0)]) [(0, (T 3))]),
 A 5 (.box (T 4)),
 A 6 (.mkIface ty_ptr_num_Fault (T 5)),
 mv 2 6]) .ret)), [.tmp 2]⟩
def c_icmp4_fault : MFn := ⟨1, 7, (.seq (R [
 A 2 (.mov (.cst LV.nili))]) (.seq (R [
 mv 3 0,
 A 4 (.build (LV.agg [(LV.int .i64 0), (LV.int .i64 0)]) [(0, (T 3))]),
 A 5 (.box (T 4)),
 A 6 (.mkIface ty_ptr_num_Fault (T 5)),
 mv 2 6]) .ret)), [.tmp 2]⟩
def c_icmp6_fault : MFn := ⟨1, 7, (.seq (R [
 A 2 (.mov (.cst LV.nili))]) (.seq (R [
 mv 3 0,
 A 4 (.build (LV.agg [(LV.int .i64 0), (LV.int .i64 0)]) [(0, (T 3))]),
 A 5 (.box (T 4)),
 A 6 (.mkIface ty_ptr_num_Fault (T 5)),
 mv 2 6]) .ret)), [.tmp 2]⟩
def c_head64_Proto : MFn := ⟨1, 21, (.seq (R [
 mI 2 0,
 A 3 (.mov (.cst (LV.bool false)))]) (.seq (.seq (R [
 mv 4 0]) (.block 0 (.seq (R [
 bI 6 .eql 4 58,
 mv 5 6]) (C 5 (.seq (R [
 mI 2 1,
 A 3 (.mov (.cst (LV.bool true)))]) .ret) (.seq (.seq (R [
 bI 8 .eql 4 0,
 mv 7 8]) (C 7 .skip (.seq (R [
 bI 9 .eql 4 1,
 mv 7 9]) (C 7 .skip (.seq (R [
 bI 10 .eql 4 2,
 mv 7 10]) (C 7 .skip (.seq (R [
 bI 11 .eql 4 43,
 mv 7 11]) (C 7 .skip (.seq (R [
 bI 12 .eql 4 44,
 mv 7 12]) (C 7 .skip (R [
 bI 13 .eql 4 60,
 mv 7 13]))))))))))) (C 7 (.seq (R [
 mI 2 0,
 A 3 (.mov (.cst (LV.bool false)))]) .ret) .skip)))))) (.seq (.seq (R [
 mv 14 0,
 bI 15 .lss 14 0,
 mv 16 15,
 wm 17 16 false 0,
 W 18 16 false (.bin .gtr (T 17) (I 255)),
 kF 19 16 18]) (C 19 (.seq (R [
 mI 2 0,
 A 3 (.mov (.cst (LV.bool false)))]) .ret) .skip)) (.seq (R [
 mv 20 0,
 mv 2 20,
 A 3 (.mov (.cst (LV.bool true)))]) .ret)))), [.tmp 2, .tmp 3]⟩
def c_sum_Of : MFn := ⟨1, 25, (.seq (R [
 mI 2 0]) (.seq (R [
 mI 3 0,
 mI 4 0]) (.seq (.seq (R [
 mv 7 0,
 A 8 (.len false (T 7)),
 mI 9 0]) (.block 0 (.loop [3, 4, 9] [10, 11, 12, 6, 13, 14, 15, 16, 17, 18, 19, 20, 21, 22] (.seq (R [
 bT 10 .lss 9 8]) (.seq (C 10 .skip (.exit 0)) (.seq (.block 1 (.seq (R [
 A 11 (.idxAddr none 1 (T 7) (T 9)),
 ld 12 11,
 mv 6 12]) (.seq (R [
 mv 13 3,
 mv 14 4,
 mv 15 6,
 A 16 (.call id_sum_add [(T 13), (T 14), (T 15), (.cst (LV.int .u8 0))]),
 A 17 (.call id_sum_fold [(T 16)]),
 mv 3 17]) (R [
 mv 18 4,
 mv 19 6,
 lg 20 19,
 bT 21 .add 18 20,
 mv 4 21])))) (R [
 bI 22 .add 9 1,
 mv 9 22]))))))) (.seq (R [
 mv 23 3,
 A 24 (.bin .sub (I 65535) (T 23)),
 mv 2 24]) .ret)))), [.tmp 2]⟩
def c_fault_turn4 : MFn := ⟨4, 87, (.seq (R [
 A 4 (.box (T 0)),
 A 6 (.box (T 2)),
 A 7 (.box (T 3)),
 A 8 (.mov (.cst (LV.str [])))]) (.seq (.block 0 (.seq (R [
 fa 12 8 38 4,
 ld 13 12,
 bI 14 .gtr 13 0,
 mv 11 14]) (C 11 .skip (.seq (R [
 fa 16 10 40 4,
 ld 17 16,
 bI 18 .eql 17 6,
 mv 19 18,
 wf 20 19 false 10 40 4,
 wl 21 19 false 20,
 W 22 19 false (.bin .eql (T 21) (I 17)),
 kF 23 19 22,
 mv 15 23]) (C 15 (.seq (R [
 fa 24 10 40 4,
 ld 25 24,
 fa 26 11 41 4,
 ld 27 26,
 fa 28 3 3 4,
 A 29 (.slcArr 16 (T 28) none none),
 A 30 (.b2s (T 29)),
 fa 31 4 19 4,
 A 32 (.slcArr 16 (T 31) none none),
 A 33 (.b2s (T 32)),
 bT 34 .add 30 33,
 fa 35 0 0 6,
 A 36 (.slcArr 4 (T 35) none none),
 A 37 (.b2s (T 36)),
 fa 38 0 0 7,
 A 39 (.slcArr 4 (T 38) none none),
 A 40 (.b2s (T 39)),
 bT 41 .add 37 40,
 fa 42 1 4 6,
 ld 43 42,
 fa 44 1 4 7,
 ld 45 44,
 A 46 (.call id_fault_ported [(T 25), (T 27), (T 34), (T 41), (T 43), (T 45)]),
 mv 8 46]) .ret) (.seq (R [
 fa 48 10 40 4,
 ld 49 48,
 bI 50 .eql 49 58,
 mv 51 50,
 wf 52 51 true 11 41 4,
 wl 53 51 true 52,
 W 54 51 true (.len true (T 53)),
 W 55 51 true (.bin .geq (T 54) (I 8)),
 kT 56 51 55,
 mv 47 56]) (C 47 (.seq (R [
 A 58 (.mapNew),
 B (.mapIns (some .u8) (T 58) (.cst (LV.int .u8 128)) (I 8)),
 B (.mapIns (some .u8) (T 58) (.cst (LV.int .u8 129)) (I 0)),
 mv 59 58,
 fa 60 11 41 4,
 ld 61 60,
 A 62 (.idxStr (T 61) (I 0)),
 A 63 (.mapGet (some .u8) (LV.int .i64 0) true (T 59) (T 62)),
 mv 57 63,
 xt 64 57 0,
 xt 65 57 1,
 mv 9 64,
 mv 10 65]) (.seq (R [
 mv 66 10,
 mv 67 66,
 wf 68 67 true 11 41 4,
 wl 69 67 true 68,
 W 70 67 true (.idxStr (T 69) (I 1)),
 W 71 67 true (.bin .eql (T 70) (.cst (LV.int .u8 0))),
 kT 72 67 71]) (C 72 (.seq (R [
 fa 73 11 41 4,
 ld 74 73,
 fa 75 3 3 4,
 A 76 (.load 16 true (T 75)),
 fa 77 4 19 4,
 A 78 (.load 16 true (T 77)),
 mv 79 1,
 A 80 (.call id_sum_Pseudo6 [(T 76), (T 78), (I 58), (T 79)]),
 mv 81 9,
 fa 82 1 4 6,
 ld 83 82,
 A 84 (.call id_fault_echoed [(T 74), (T 80), (.cst (LV.str [])), (T 81), (T 83)]),
 mv 8 84]) .ret) .skip))) .skip))))))) (.seq (R [
 fa 85 11 41 4,
 ld 86 85,
 mv 8 86]) .ret))), [.tmp 8]⟩
def c_ip4_fault : MFn := ⟨1, 7, (.seq (R [
 A 2 (.mov (.cst LV.nili))]) (.seq (R [
 mv 3 0,
 A 4 (.build (LV.agg [(LV.int .i64 0), (LV.int .i64 0)]) [(0, (T 3))]),
 A 5 (.box (T 4)),
 A 6 (.mkIface ty_ptr_num_Fault (T 5)),
 mv 2 6]) .ret)), [.tmp 2]⟩
def c_ip4_Parse_1 : MFn := ⟨2, 15, (.seq (R [
 mI 3 0]) (.seq (R [
 ld 4 1,
 mv 5 0,
 A 6 (.idxStr (T 4) (T 5)),
 A 7 (.conv .i64 (T 6)),
 A 8 (.bin .shl (T 7) (.cst (LV.int .u64 8))),
 ld 9 1,
 mv 10 0,
 bI 11 .add 10 1,
 A 12 (.idxStr (T 9) (T 11)),
 A 13 (.conv .i64 (T 12)),
 bT 14 .or 8 13,
 mv 3 14]) .ret)), [.tmp 3]⟩
def c_ip4_why : MFn := ⟨1, 79, (.seq (R [
 A 1 (.box (T 0)),
 mI 2 0]) (.seq (.block 0 (.seq (R [
 fa 4 0 0 1,
 ld 5 4,
 fa 6 2 2 1,
 ld 7 6,
 fa 8 3 3 1,
 ld 9 8,
 A 10 (.bsl (LV.int .i64 0) 3 [(0, (T 5)), (1, (T 7)), (2, (T 9))]),
 A 11 (.call id_ip4_byteful [(T 10)]),
 A 12 (.un .not (T 11)),
 mv 13 12,
 wf 14 13 false 1 1 1,
 wl 15 13 false 14,
 W 16 13 false (.bin .lss (T 15) (I 0)),
 kF 17 13 16,
 mv 18 17,
 wf 19 18 false 1 1 1,
 wl 20 18 false 19,
 W 21 18 false (.bin .gtr (T 20) (I 65535)),
 kF 22 18 21,
 mv 23 22,
 wf 24 23 false 4 4 1,
 wl 25 23 false 24,
 W 26 23 false (.bin .lss (T 25) (I 0)),
 kF 27 23 26,
 mv 28 27,
 wf 29 28 false 4 4 1,
 wl 30 28 false 29,
 W 31 28 false (.bin .gtr (T 30) (I 65528)),
 kF 32 28 31,
 mv 33 32,
 wf 34 33 false 4 4 1,
 wl 35 33 false 34,
 W 36 33 false (.bin .rem (T 35) (I 8)),
 W 37 33 false (.bin .neq (T 36) (I 0)),
 kF 38 33 37,
 mv 3 38]) (C 3 (.seq (R [
 mI 2 13]) .ret) (.seq (R [
 fa 40 9 15 1,
 ld 41 40,
 lg 42 41,
 bI 43 .gtr 42 40,
 mv 44 43,
 wf 45 44 false 9 15 1,
 wl 46 44 false 45,
 W 47 44 false (.len true (T 46)),
 W 48 44 false (.bin .rem (T 47) (I 4)),
 W 49 44 false (.bin .neq (T 48) (I 0)),
 kF 50 44 49,
 mv 51 50,
 wf 52 51 false 6 6 1,
 wl 53 51 false 52,
 wm 54 51 false 53,
 wf 55 54 true 10 16 1,
 wl 56 54 true 55,
 W 57 54 true (.bin .eql (T 56) (.cst (LV.str []))),
 wm 58 54 true 57,
 wf 59 58 false 10 16 1,
 wl 60 58 false 59,
 W 61 58 false (.len true (T 60)),
 W 62 58 false (.bin .rem (T 61) (I 8)),
 W 63 58 false (.bin .neq (T 62) (I 0)),
 W 64 54 true (.pick (T 58) (.cst (LV.bool true)) (T 63)),
 W 65 51 false (.pick (T 54) (T 64) (.cst (LV.bool false))),
 kF 66 51 65,
 mv 39 66]) (C 39 (.seq (R [
 mI 2 8]) .ret) (.seq (R [
 fa 68 10 16 1,
 ld 69 68,
 lg 70 69,
 fa 71 9 15 1,
 ld 72 71,
 lg 73 72,
 A 74 (.bin .sub (I 65515) (T 73)),
 fa 75 4 4 1,
 ld 76 75,
 bT 77 .sub 74 76,
 bT 78 .gtr 70 77,
 mv 67 78]) (C 67 (.seq (R [
 mI 2 3]) .ret) .skip))))))) (.seq (R [
 mI 2 0]) .ret))), [.tmp 2]⟩
def c_interpreterref03_Why : MFn := ⟨1, 75, (.seq (R [
 A 1 (.box (T 0)),
 mI 2 0]) (.seq (.seq (R [
 fa 3 0 0 1,
 ld 4 3,
 A 5 (.call id_interpreterref03_within [(T 4), (I 255)]),
 A 6 (.un .not (T 5)),
 mv 7 6,
 wf 8 7 false 2 2 1,
 wl 9 7 false 8,
 W 10 7 false (.call id_interpreterref03_within [(T 9), (I 255)]),
 W 11 7 false (.un .not (T 10)),
 kF 12 7 11,
 mv 13 12,
 wf 14 13 false 3 3 1,
 wl 15 13 false 14,
 W 16 13 false (.call id_interpreterref03_within [(T 15), (I 255)]),
 W 17 13 false (.un .not (T 16)),
 kF 18 13 17,
 mv 19 18,
 wf 20 19 false 1 1 1,
 wl 21 19 false 20,
 W 22 19 false (.call id_interpreterref03_within [(T 21), (I 65535)]),
 W 23 19 false (.un .not (T 22)),
 kF 24 19 23,
 mv 25 24,
 wf 26 25 false 4 4 1,
 wl 27 25 false 26,
 W 28 25 false (.call id_interpreterref03_within [(T 27), (I 65528)]),
 W 29 25 false (.un .not (T 28)),
 kF 30 25 29,
 mv 31 30,
 wf 32 31 false 4 4 1,
 wl 33 31 false 32,
 W 34 31 false (.bin .rem (T 33) (I 8)),
 W 35 31 false (.bin .neq (T 34) (I 0)),
 kF 36 31 35]) (C 36 (.seq (R [
 mI 2 13]) .ret) .skip)) (.seq (.seq (R [
 fa 37 9 15 1,
 ld 38 37,
 lg 39 38,
 bI 40 .gtr 39 40,
 mv 41 40,
 wf 42 41 false 9 15 1,
 wl 43 41 false 42,
 W 44 41 false (.len true (T 43)),
 W 45 41 false (.bin .rem (T 44) (I 4)),
 W 46 41 false (.bin .neq (T 45) (I 0)),
 kF 47 41 46]) (C 47 (.seq (R [
 mI 2 8]) .ret) .skip)) (.seq (.seq (R [
 fa 48 6 6 1,
 ld 49 48,
 mv 50 49,
 wf 51 50 true 10 16 1,
 wl 52 50 true 51,
 W 53 50 true (.len true (T 52)),
 W 54 50 true (.bin .eql (T 53) (I 0)),
 wm 55 50 true 54,
 wf 56 55 false 10 16 1,
 wl 57 55 false 56,
 W 58 55 false (.len true (T 57)),
 W 59 55 false (.bin .rem (T 58) (I 8)),
 W 60 55 false (.bin .neq (T 59) (I 0)),
 W 61 50 true (.pick (T 55) (.cst (LV.bool true)) (T 60)),
 kT 62 50 61]) (C 62 (.seq (R [
 mI 2 8]) .ret) .skip)) (.seq (.seq (R [
 fa 63 9 15 1,
 ld 64 63,
 lg 65 64,
 A 66 (.bin .add (I 20) (T 65)),
 fa 67 4 4 1,
 ld 68 67,
 bT 69 .add 66 68,
 fa 70 10 16 1,
 ld 71 70,
 lg 72 71,
 bT 73 .add 69 72,
 bI 74 .gtr 73 65535]) (C 74 (.seq (R [
 mI 2 3]) .ret) .skip)) (.seq (R [
 mI 2 0]) .ret)))))), [.tmp 2]⟩
def c_interpreterref02_Of : MFn := ⟨1, 7, (.seq (R [
 mI 2 0]) (.seq (R [
 mv 3 0,
 A 4 (.call id_interpreterref02_Words [(T 3)]),
 A 5 (.call id_interpreterref02_Total [(T 4)]),
 A 6 (.bin .sub (I 65535) (T 5)),
 mv 2 6]) .ret)), [.tmp 2]⟩
def c_icmp4_Failure : MFn := ⟨1, 11, (.seq (R [
 A 1 (.box (T 0)),
 A 2 (.mov (.cst (LV.bool false)))]) (.seq (.seq (R [
 fa 3 0 0 1,
 ld 4 3]) (.block 0 (.seq (.seq (R [
 bI 6 .eql 4 3,
 mv 5 6]) (C 5 .skip (.seq (R [
 bI 7 .eql 4 4,
 mv 5 7]) (C 5 .skip (.seq (R [
 bI 8 .eql 4 5,
 mv 5 8]) (C 5 .skip (.seq (R [
 bI 9 .eql 4 11,
 mv 5 9]) (C 5 .skip (R [
 bI 10 .eql 4 12,
 mv 5 10]))))))))) (C 5 (.seq (R [
 A 2 (.mov (.cst (LV.bool true)))]) .ret) .skip)))) (.seq (R [
 A 2 (.mov (.cst (LV.bool false)))]) .ret))), [.tmp 2]⟩
def c_class_Martian4 : MFn := ⟨1, 26, (.seq (R [
 A 1 (.box (T 0)),
 A 2 (.mov (.cst (LV.bool false)))]) (.seq (R [
 A 3 (.idxAddr (some 4) 1 (T 1) (I 0)),
 ld 4 3,
 A 5 (.bin .eql (T 4) (.cst (LV.int .u8 0))),
 mv 6 5,
 W 7 6 false (.idxAddr (some 4) 1 (T 1) (I 0)),
 wl 8 6 false 7,
 W 9 6 false (.bin .eql (T 8) (.cst (LV.int .u8 127))),
 kF 10 6 9,
 mv 11 10,
 W 12 11 false (.idxAddr (some 4) 1 (T 1) (I 0)),
 wl 13 11 false 12,
 W 14 11 false (.bin .geq (T 13) (.cst (LV.int .u8 224))),
 kF 15 11 14,
 mv 16 15,
 W 17 16 false (.idxAddr (some 4) 1 (T 1) (I 0)),
 wl 18 16 false 17,
 W 19 16 false (.bin .eql (T 18) (.cst (LV.int .u8 169))),
 wm 20 16 false 19,
 W 21 20 true (.idxAddr (some 4) 1 (T 1) (I 1)),
 wl 22 20 true 21,
 W 23 20 true (.bin .eql (T 22) (.cst (LV.int .u8 254))),
 W 24 16 false (.pick (T 20) (T 23) (.cst (LV.bool false))),
 kF 25 16 24,
 mv 2 25]) .ret)), [.tmp 2]⟩
def c_fault_beginning : MFn := ⟨3, 24, (.seq (R [
 A 6 (.mov (.cst (LV.str []))),
 A 7 (.mov (.cst (LV.bool false)))]) (.seq (R [
 mv 9 0,
 lg 10 9,
 mv 11 2,
 A 12 (.minmax false (T 10) [(T 11)]),
 mv 8 12]) (.seq (R [
 mv 13 0,
 mv 14 8,
 A 15 (.minmax true (T 14) [(I 0)]),
 A 16 (.slc 0 (T 13) none (some (T 15))),
 mv 17 8,
 mv 18 1,
 bI 19 .add 18 8,
 mv 20 0,
 lg 21 20,
 A 22 (.minmax false (T 19) [(T 21)]),
 bT 23 .geq 17 22,
 mv 6 16,
 mv 7 23]) .ret))), [.tmp 6, .tmp 7]⟩
def c_icmp4_Bytes : MFn := ⟨1, 59, (.seq (R [
 A 1 (.box (T 0)),
 A 2 (.mov (.cst (LV.str []))),
 A 3 (.mov (.cst LV.nili))]) (.seq (R [
 fa 10 0 0 1,
 ld 11 10,
 A 12 (.call id_num_Big [(T 11), (I 1)]),
 mv 9 12,
 xt 13 9 0,
 xt 14 9 1,
 mv 4 13,
 mv 5 14]) (.seq (.seq (R [
 mv 15 5,
 A 16 (.eqNil 1 true (T 15))]) (C 16 (.seq (R [
 mv 17 5,
 A 2 (.mov (.cst (LV.str []))),
 mv 3 17]) .ret) .skip)) (.seq (R [
 fa 19 1 1 1,
 ld 20 19,
 A 21 (.call id_num_Big [(T 20), (I 1)]),
 mv 18 21,
 xt 22 18 0,
 xt 23 18 1,
 mv 6 22,
 mv 5 23]) (.seq (.seq (R [
 mv 24 5,
 A 25 (.eqNil 1 true (T 24))]) (C 25 (.seq (R [
 mv 26 5,
 A 2 (.mov (.cst (LV.str []))),
 mv 3 26]) .ret) .skip)) (.seq (R [
 fa 28 2 2 1,
 ld 29 28,
 A 30 (.conv .i64 (T 29)),
 A 31 (.call id_num_Big [(T 30), (I 4)]),
 mv 27 31,
 xt 32 27 0,
 xt 33 27 1,
 mv 7 32,
 mv 5 33]) (.seq (.seq (R [
 mv 34 5,
 A 35 (.eqNil 1 true (T 34))]) (C 35 (.seq (R [
 mv 36 5,
 A 2 (.mov (.cst (LV.str []))),
 mv 3 36]) .ret) .skip)) (.seq (R [
 mv 38 4,
 mv 39 6,
 mv 40 7,
 fa 41 3 3 1,
 ld 42 41,
 A 43 (.bsl (LV.str []) 5 [(0, (T 38)), (1, (T 39)), (2, (.cst (LV.str [0, 0]))), (3, (T 40)), (4, (T 42))]),
 A 44 (.call id_sum_Of [(T 43)]),
 A 45 (.call id_num_Big [(T 44), (I 2)]),
 mv 37 45,
 xt 46 37 0,
 xt 47 37 1,
 mv 8 46,
 mv 5 47]) (.seq (R [
 mv 48 4,
 mv 49 6,
 bT 50 .add 48 49,
 mv 51 8,
 bT 52 .add 50 51,
 mv 53 7,
 bT 54 .add 52 53,
 fa 55 3 3 1,
 ld 56 55,
 bT 57 .add 54 56,
 mv 58 5,
 mv 2 57,
 mv 3 58]) .ret))))))))), [.tmp 2, .tmp 3]⟩
def c_ip4_Bytes : MFn := ⟨1, 82, (.seq (R [
 A 1 (.box (T 0)),
 A 2 (.mov (.cst (LV.str []))),
 A 3 (.mov (.cst LV.nili))]) (.seq (.seq (R [
 A 9 (.load 17 true (T 1)),
 A 10 (.call id_ip4_why [(T 9)]),
 mv 4 10]) (.seq (R [
 mv 11 4,
 bI 12 .neq 11 0]) (C 12 (.seq (R [
 mv 13 4,
 A 14 (.call id_ip4_fault [(T 13)]),
 A 2 (.mov (.cst (LV.str []))),
 mv 3 14]) .ret) .skip))) (.seq (R [
 fa 15 4 4 1,
 ld 16 15,
 bI 17 .quo 16 8,
 mv 5 17]) (.seq (.seq (R [
 fa 18 5 5 1,
 ld 19 18]) (C 19 (R [
 mv 20 5,
 bI 21 .or 20 16384,
 mv 5 21]) .skip)) (.seq (.seq (R [
 fa 22 6 6 1,
 ld 23 22]) (C 23 (R [
 mv 24 5,
 bI 25 .or 24 8192,
 mv 5 25]) .skip)) (.seq (R [
 fa 26 9 15 1,
 ld 27 26,
 lg 28 27,
 A 29 (.bin .add (I 20) (T 28)),
 mv 6 29]) (.seq (R [
 mv 30 6,
 bI 31 .quo 30 4,
 A 32 (.bin .add (I 64) (T 31)),
 A 33 (.call id_ip4_big [(T 32), (I 1)]),
 fa 34 0 0 1,
 ld 35 34,
 A 36 (.call id_ip4_big [(T 35), (I 1)]),
 bT 37 .add 33 36,
 mv 38 6,
 fa 39 10 16 1,
 ld 40 39,
 lg 41 40,
 bT 42 .add 38 41,
 A 43 (.call id_ip4_big [(T 42), (I 2)]),
 bT 44 .add 37 43,
 fa 45 1 1 1,
 ld 46 45,
 A 47 (.call id_ip4_big [(T 46), (I 2)]),
 bT 48 .add 44 47,
 mv 49 5,
 A 50 (.call id_ip4_big [(T 49), (I 2)]),
 bT 51 .add 48 50,
 fa 52 2 2 1,
 ld 53 52,
 A 54 (.call id_ip4_big [(T 53), (I 1)]),
 bT 55 .add 51 54,
 fa 56 3 3 1,
 ld 57 56,
 A 58 (.call id_ip4_big [(T 57), (I 1)]),
 bT 59 .add 55 58,
 mv 7 59]) (.seq (R [
 fa 60 7 7 1,
 A 61 (.slcArr 4 (T 60) none none),
 A 62 (.b2s (T 61)),
 fa 63 8 11 1,
 A 64 (.slcArr 4 (T 63) none none),
 A 65 (.b2s (T 64)),
 bT 66 .add 62 65,
 fa 67 9 15 1,
 ld 68 67,
 bT 69 .add 66 68,
 mv 8 69]) (.seq (R [
 mv 70 7,
 mv 71 7,
 mv 72 8,
 A 73 (.bsl (LV.str []) 2 [(0, (T 71)), (1, (T 72))]),
 A 74 (.call id_sum_Of [(T 73)]),
 A 75 (.call id_ip4_big [(T 74), (I 2)]),
 bT 76 .add 70 75,
 mv 77 8,
 bT 78 .add 76 77,
 fa 79 10 16 1,
 ld 80 79,
 bT 81 .add 78 80,
 mv 2 81,
 A 3 (.mov (.cst LV.nili))]) .ret))))))))), [.tmp 2, .tmp 3]⟩
def c_interpreterref03_number : MFn := ⟨2, 18, (.seq (R [
 mI 4 0]) (.seq (R [
 mv 8 0,
 mv 9 1,
 A 10 (.build (LV.agg [(LV.str []), (LV.int .i64 0), (LV.int .i64 0), (LV.int .i64 0)]) [(0, (T 8)), (1, (T 9))]),
 A 11 (.boxM (T 10)),
 mv 5 11]) (.seq (R [
 mv 13 5,
 A 14 (.callRw id_interpreterref01_Reader_Number [(T 13), (I 2)]),
 mv 12 14,
 xt 15 12 0,
 xt 16 12 1,
 mv 6 15,
 mv 7 16]) (.seq (R [
 mv 17 6,
 mv 4 17]) .ret)))), [.tmp 4]⟩
def c_num_Big : MFn := ⟨2, 55, (.seq (R [
 A 4 (.mov (.cst (LV.str []))),
 A 5 (.mov (.cst LV.nili))]) (.seq (.block 0 (.seq (R [
 mv 9 1,
 bI 10 .neq 9 1,
 mv 11 10,
 wm 12 11 true 1,
 W 13 11 true (.bin .neq (T 12) (I 2)),
 kT 14 11 13,
 mv 15 14,
 wm 16 15 true 1,
 W 17 15 true (.bin .neq (T 16) (I 4)),
 kT 18 15 17,
 mv 8 18]) (C 8 (.seq (R [
 A 19 (.build (LV.agg [(LV.int .i64 0), (LV.int .i64 0)]) [(0, (I 1))]),
 A 20 (.box (T 19)),
 A 21 (.mkIface ty_ptr_num_Fault (T 20)),
 A 4 (.mov (.cst (LV.str []))),
 mv 5 21]) .ret) (.seq (R [
 mv 23 0,
 bI 24 .lss 23 0,
 mv 25 24,
 wm 26 25 false 0,
 wm 27 25 false 1,
 W 28 25 false (.bin .mul (I 8) (T 27)),
 W 29 25 false (.bin .shl (I 1) (T 28)),
 W 30 25 false (.bin .geq (T 26) (T 29)),
 kF 31 25 30,
 mv 22 31]) (C 22 (.seq (R [
 A 32 (.build (LV.agg [(LV.int .i64 0), (LV.int .i64 0)]) [(0, (I 13))]),
 A 33 (.box (T 32)),
 A 34 (.mkIface ty_ptr_num_Fault (T 33)),
 A 4 (.mov (.cst (LV.str []))),
 mv 5 34]) .ret) .skip))))) (.seq (R [
 mv 35 1,
 A 36 (.mkSl (T 35) (T 35)),
 mv 6 36]) (.seq (.seq (R [
 mv 37 1,
 mI 38 0]) (.block 1 (.loop [38] [39, 40, 7, 41, 42, 43, 44, 45, 46, 47, 48, 49, 50, 51, 52] (.seq (R [
 bT 39 .lss 38 37]) (.seq (C 39 .skip (.exit 1)) (.seq (.block 2 (.seq (R [
 mv 40 38,
 mv 7 40]) (R [
 mv 41 6,
 mv 42 7,
 mv 43 0,
 mv 44 1,
 bI 45 .sub 44 1,
 mv 46 7,
 bT 47 .sub 45 46,
 A 48 (.bin .mul (I 8) (T 47)),
 bT 49 .shr 43 48,
 A 50 (.conv .u8 (T 49)),
 A 51 (.idxAddr none 1 (T 41) (T 42)),
 B (.store 1 false (T 51) (T 50))]))) (R [
 bI 52 .add 38 1,
 mv 38 52]))))))) (.seq (R [
 mv 53 6,
 A 54 (.b2s (T 53)),
 mv 4 54,
 A 5 (.mov (.cst LV.nili))]) .ret))))), [.tmp 4, .tmp 5]⟩
def c_fault_ported : MFn := ⟨6, 48, (.seq (R [
 A 12 (.mov (.cst (LV.str [])))]) (.seq (.seq (R [
 mv 15 1,
 lg 16 15,
 bI 17 .lss 16 4]) (C 17 (.seq (R [
 mv 18 1,
 mv 12 18]) .ret) .skip)) (.seq (R [
 mv 19 4,
 A 20 (.call id_fault_big [(T 19), (I 2)]),
 mv 21 5,
 A 22 (.call id_fault_big [(T 21), (I 2)]),
 bT 23 .add 20 22,
 mv 13 23]) (.seq (R [
 mv 24 1,
 A 25 (.slc 0 (T 24) none (some (I 4))),
 mv 14 25]) (.seq (R [
 mv 26 13,
 mv 27 1,
 A 28 (.slc 0 (T 27) (some (I 4)) none),
 bT 29 .add 26 28,
 mv 1 29]) (.seq (.seq (R [
 mv 30 0,
 bI 31 .eql 30 17]) (C 31 (.seq (R [
 mv 32 1,
 mv 33 2,
 mv 34 14,
 bT 35 .add 33 34,
 mv 36 3,
 mv 37 13,
 bT 38 .add 36 37,
 A 39 (.call id_fault_update [(T 32), (I 6), (T 35), (T 38), (.cst (LV.bool true))]),
 mv 12 39]) .ret) .skip)) (.seq (R [
 mv 40 1,
 mv 41 2,
 mv 42 14,
 bT 43 .add 41 42,
 mv 44 3,
 mv 45 13,
 bT 46 .add 44 45,
 A 47 (.call id_fault_update [(T 40), (I 16), (T 43), (T 46), (.cst (LV.bool false))]),
 mv 12 47]) .ret))))))), [.tmp 12]⟩
def c_fault_echoed : MFn := ⟨5, 42, (.seq (R [
 A 10 (.mov (.cst (LV.str [])))]) (.seq (R [
 mv 13 0,
 A 14 (.slc 0 (T 13) none (some (I 2))),
 mv 15 0,
 A 16 (.slc 0 (T 15) (some (I 4)) (some (I 6))),
 bT 17 .add 14 16,
 mv 11 17]) (.seq (R [
 mv 18 3,
 A 19 (.call id_fault_big [(T 18), (I 1)]),
 A 20 (.bin .add (T 19) (.cst (LV.str [0]))),
 mv 12 20]) (.seq (R [
 mv 21 12,
 mv 22 0,
 A 23 (.slc 0 (T 22) (some (I 2)) (some (I 4))),
 bT 24 .add 21 23,
 mv 25 4,
 A 26 (.call id_fault_big [(T 25), (I 2)]),
 bT 27 .add 24 26,
 mv 28 0,
 A 29 (.slc 0 (T 28) (some (I 6)) none),
 bT 30 .add 27 29,
 mv 0 30]) (.seq (R [
 mv 31 0,
 mv 32 1,
 mv 33 11,
 bT 34 .add 32 33,
 mv 35 2,
 mv 36 12,
 bT 37 .add 35 36,
 mv 38 4,
 A 39 (.call id_fault_big [(T 38), (I 2)]),
 bT 40 .add 37 39,
 A 41 (.call id_fault_update [(T 31), (I 2), (T 34), (T 40), (.cst (LV.bool false))]),
 mv 10 41]) .ret))))), [.tmp 10]⟩
def c_num_Reader_number : MFn := ⟨2, 31, (.seq (R [
 mI 4 0,
 A 5 (.mov (.cst LV.nili))]) (.seq (R [
 mv 11 0,
 mv 12 1,
 A 13 (.callRw id_num_Reader_Text [(T 11), (T 12)]),
 mv 10 13,
 xt 14 10 0,
 xt 15 10 1,
 mv 6 14,
 mv 7 15]) (.seq (R [
 mI 8 0]) (.seq (.seq (R [
 mv 16 6,
 lg 17 16,
 mI 18 0]) (.block 0 (.loop [8, 18] [19, 20, 9, 21, 22, 23, 24, 25, 26, 27, 28] (.seq (R [
 bT 19 .lss 18 17]) (.seq (C 19 .skip (.exit 0)) (.seq (.block 1 (.seq (R [
 mv 20 18,
 mv 9 20]) (R [
 mv 21 8,
 A 22 (.bin .shl (T 21) (.cst (LV.int .u64 8))),
 mv 23 6,
 mv 24 9,
 A 25 (.idxStr (T 23) (T 24)),
 A 26 (.conv .i64 (T 25)),
 bT 27 .or 22 26,
 mv 8 27]))) (R [
 bI 28 .add 18 1,
 mv 18 28]))))))) (.seq (R [
 mv 29 8,
 mv 30 7,
 mv 4 29,
 mv 5 30]) .ret))))), [.tmp 4, .tmp 5]⟩
def c_ip6_extends : MFn := ⟨1, 13, (.seq (R [
 A 2 (.mov (.cst (LV.bool false)))]) (.seq (R [
 mv 3 0,
 bI 4 .eql 3 0,
 mv 5 4,
 wm 6 5 false 0,
 W 7 5 false (.bin .eql (T 6) (I 43)),
 kF 8 5 7,
 mv 9 8,
 wm 10 9 false 0,
 W 11 9 false (.bin .eql (T 10) (I 60)),
 kF 12 9 11,
 mv 2 12]) .ret)), [.tmp 2]⟩
def c_tcp_two : MFn := ⟨2, 16, (.seq (R [
 mI 4 0]) (.seq (R [
 mv 5 0,
 mv 6 1,
 A 7 (.idxStr (T 5) (T 6)),
 A 8 (.conv .i64 (T 7)),
 A 9 (.bin .shl (T 8) (.cst (LV.int .u64 8))),
 mv 10 0,
 mv 11 1,
 bI 12 .add 11 1,
 A 13 (.idxStr (T 10) (T 12)),
 A 14 (.conv .i64 (T 13)),
 bT 15 .or 9 14,
 mv 4 15]) .ret)), [.tmp 4]⟩
def c_udp_two : MFn := ⟨2, 16, (.seq (R [
 mI 4 0]) (.seq (R [
 mv 5 0,
 mv 6 1,
 A 7 (.idxStr (T 5) (T 6)),
 A 8 (.conv .i64 (T 7)),
 A 9 (.bin .shl (T 8) (.cst (LV.int .u64 8))),
 mv 10 0,
 mv 11 1,
 bI 12 .add 11 1,
 A 13 (.idxStr (T 10) (T 12)),
 A 14 (.conv .i64 (T 13)),
 bT 15 .or 9 14,
 mv 4 15]) .ret)), [.tmp 4]⟩
def c_sum_fold : MFn := ⟨1, 11, (.seq (R [
 mI 2 0]) (.seq (.block 0 (.loop [0] [3, 4, 5, 6, 7, 8, 9] (.seq (.seq (R [
 mv 3 0,
 bI 4 .gtr 3 65535]) (C 4 .skip (.exit 0))) (.block 1 (R [
 mv 5 0,
 A 6 (.bin .shr (T 5) (.cst (LV.int .u64 16))),
 mv 7 0,
 bI 8 .and 7 65535,
 bT 9 .add 6 8,
 mv 0 9]))))) (.seq (R [
 mv 10 0,
 mv 2 10]) .ret))), [.tmp 2]⟩
def c_sum_add : MFn := ⟨4, 34, (.seq (R [
 mI 8 0]) (.seq (.seq (R [
 mv 11 2,
 lg 12 11,
 mI 13 0]) (.block 0 (.loop [0, 13] [14, 15, 9, 16, 17, 18, 19, 20, 21, 10, 22, 23, 24, 25, 26, 27, 28, 29, 30, 31, 32] (.seq (R [
 bT 14 .lss 13 12]) (.seq (C 14 .skip (.exit 0)) (.seq (.block 1 (.seq (R [
 mv 15 13,
 mv 9 15]) (.seq (R [
 mv 16 2,
 mv 17 9,
 A 18 (.idxStr (T 16) (T 17)),
 mv 19 3,
 bT 20 .xor 18 19,
 A 21 (.conv .i64 (T 20)),
 mv 10 21]) (.seq (.seq (R [
 mv 22 1,
 mv 23 9,
 bT 24 .add 22 23,
 bI 25 .rem 24 2,
 bI 26 .eql 25 0]) (C 26 (R [
 mv 27 10,
 A 28 (.bin .shl (T 27) (.cst (LV.int .u64 8))),
 mv 10 28]) .skip)) (R [
 mv 29 0,
 mv 30 10,
 bT 31 .add 29 30,
 mv 0 31]))))) (R [
 bI 32 .add 13 1,
 mv 13 32]))))))) (.seq (R [
 mv 33 0,
 mv 8 33]) .ret))), [.tmp 8]⟩
def c_ip4_byteful : MFn := ⟨1, 18, (.seq (R [
 A 2 (.mov (.cst (LV.bool false)))]) (.seq (.seq (R [
 mv 5 0,
 A 6 (.len false (T 5)),
 mI 7 0]) (.block 0 (.loop [2, 7] [8, 9, 10, 4, 11, 12, 13, 14, 15, 16, 17] (.seq (R [
 bT 8 .lss 7 6]) (.seq (C 8 .skip (.exit 0)) (.seq (.block 1 (.seq (R [
 A 9 (.idxAddr none 1 (T 5) (T 7)),
 ld 10 9,
 mv 4 10]) (.seq (R [
 mv 11 4,
 bI 12 .lss 11 0,
 mv 13 12,
 wm 14 13 false 4,
 W 15 13 false (.bin .gtr (T 14) (I 255)),
 kF 16 13 15]) (C 16 (.seq (R [
 A 2 (.mov (.cst (LV.bool false)))]) .ret) .skip)))) (R [
 bI 17 .add 7 1,
 mv 7 17]))))))) (.seq (R [
 A 2 (.mov (.cst (LV.bool true)))]) .ret))), [.tmp 2]⟩
def c_interpreterref03_within : MFn := ⟨2, 12, (.seq (R [
 A 4 (.mov (.cst (LV.bool false)))]) (.seq (R [
 mv 5 0,
 bI 6 .geq 5 0,
 mv 7 6,
 wm 8 7 true 0,
 wm 9 7 true 1,
 W 10 7 true (.bin .leq (T 8) (T 9)),
 kT 11 7 10,
 mv 4 11]) .ret)), [.tmp 4]⟩
def c_interpreterref02_Total : MFn := ⟨1, 25, (.seq (R [
 mI 2 0]) (.seq (R [
 mI 3 0]) (.seq (.seq (R [
 mI 4 0]) (.block 0 (.loop [3, 4] [5, 6, 7, 8, 11, 12, 13, 14, 15, 16, 9, 10] (.seq (.seq (R [
 mv 5 4,
 mv 6 0,
 A 7 (.len false (T 6)),
 bT 8 .lss 5 7]) (C 8 .skip (.exit 0))) (.seq (.block 1 (R [
 mv 11 3,
 mv 12 0,
 mv 13 4,
 A 14 (.idxAddr none 1 (T 12) (T 13)),
 ld 15 14,
 bT 16 .add 11 15,
 mv 3 16])) (R [
 mv 9 4,
 bI 10 .add 9 1,
 mv 4 10])))))) (.seq (.block 2 (.loop [3] [17, 18, 19, 20, 21, 22, 23] (.seq (.seq (R [
 mv 17 3,
 bI 18 .gtr 17 65535]) (C 18 .skip (.exit 2))) (.block 3 (R [
 mv 19 3,
 bI 20 .quo 19 65536,
 mv 21 3,
 bI 22 .rem 21 65536,
 bT 23 .add 20 22,
 mv 3 23]))))) (.seq (R [
 mv 24 3,
 mv 2 24]) .ret))))), [.tmp 2]⟩
def c_interpreterref02_Words : MFn := ⟨1, 34, (.seq (R [
 A 2 (.mov (.cst LV.nils))]) (.seq (R [
 A 3 (.nilT 1)]) (.seq (.seq (R [
 mv 5 0,
 lg 6 5,
 bI 7 .rem 6 2,
 bI 8 .eql 7 1]) (C 8 (R [
 mv 9 0,
 A 10 (.bsl (LV.int .u8 0) 1 [(0, (.cst (LV.int .u8 0)))]),
 A 11 (.b2s (T 10)),
 bT 12 .add 9 11,
 mv 0 12]) .skip)) (.seq (.seq (R [
 mI 4 0]) (.block 0 (.loop [3, 4] [13, 14, 15, 16, 19, 20, 21, 22, 23, 24, 25, 26, 27, 28, 29, 30, 31, 32, 17, 18] (.seq (.seq (R [
 mv 13 4,
 mv 14 0,
 lg 15 14,
 bT 16 .lss 13 15]) (C 16 .skip (.exit 0))) (.seq (.block 1 (R [
 mv 19 3,
 mv 20 0,
 mv 21 4,
 A 22 (.idxStr (T 20) (T 21)),
 A 23 (.conv .i64 (T 22)),
 A 24 (.bin .mul (I 256) (T 23)),
 mv 25 0,
 mv 26 4,
 bI 27 .add 26 1,
 A 28 (.idxStr (T 25) (T 27)),
 A 29 (.conv .i64 (T 28)),
 bT 30 .add 24 29,
 A 31 (.bsl (LV.int .i64 0) 1 [(0, (T 30))]),
 A 32 (.append 1 8 (T 19) (T 31)),
 mv 3 32])) (R [
 mv 17 4,
 bI 18 .add 17 2,
 mv 4 18])))))) (.seq (R [
 mv 33 3,
 mv 2 33]) .ret))))), [.tmp 2]⟩
def c_ip4_big : MFn := ⟨2, 14, (.seq (R [
 A 4 (.mov (.cst (LV.str [])))]) (.seq (R [
 mv 8 0,
 mv 9 1,
 A 10 (.call id_num_Big [(T 8), (T 9)]),
 mv 7 10,
 xt 11 7 0,
 xt 12 7 1,
 mv 5 11,
 mv 6 12]) (.seq (R [
 mv 13 5,
 mv 4 13]) .ret))), [.tmp 4]⟩
def c_interpreterref01_Reader_Number : MFn := ⟨2, 31, (.seq (R [
 mI 4 0,
 mI 5 0]) (.seq (R [
 mv 11 0,
 mv 12 1,
 A 13 (.callRw id_interpreterref01_Reader_Text [(T 11), (T 12)]),
 mv 10 13,
 xt 14 10 0,
 xt 15 10 1,
 mv 6 14,
 mv 7 15]) (.seq (R [
 mI 8 0]) (.seq (.seq (R [
 mI 9 0]) (.block 0 (.loop [8, 9] [16, 17, 18, 19, 22, 23, 24, 25, 26, 27, 28, 20, 21] (.seq (.seq (R [
 mv 16 9,
 mv 17 6,
 lg 18 17,
 bT 19 .lss 16 18]) (C 19 .skip (.exit 0))) (.seq (.block 1 (R [
 mv 22 8,
 bI 23 .mul 22 256,
 mv 24 6,
 mv 25 9,
 A 26 (.idxStr (T 24) (T 25)),
 A 27 (.conv .i64 (T 26)),
 bT 28 .add 23 27,
 mv 8 28])) (R [
 mv 20 9,
 bI 21 .add 20 1,
 mv 9 21])))))) (.seq (R [
 mv 29 8,
 mv 30 7,
 mv 4 29,
 mv 5 30]) .ret))))), [.tmp 4, .tmp 5]⟩
def c_fault_update : MFn := ⟨5, 55, (.seq (R [
 A 10 (.mov (.cst (LV.str [])))]) (.seq (.seq (R [
 mv 12 0,
 lg 13 12,
 mv 14 1,
 bI 15 .add 14 2,
 bT 16 .lss 13 15]) (C 16 (.seq (R [
 mv 17 0,
 mv 10 17]) .ret) .skip)) (.seq (R [
 mv 18 0,
 mv 19 1,
 A 20 (.idxStr (T 18) (T 19)),
 A 21 (.conv .i64 (T 20)),
 A 22 (.bin .shl (T 21) (.cst (LV.int .u64 8))),
 mv 23 0,
 mv 24 1,
 bI 25 .add 24 1,
 A 26 (.idxStr (T 23) (T 25)),
 A 27 (.conv .i64 (T 26)),
 bT 28 .or 22 27,
 mv 11 28]) (.seq (.seq (R [
 mv 29 4,
 mv 30 29,
 wm 31 30 true 11,
 W 32 30 true (.bin .eql (T 31) (I 0)),
 kT 33 30 32]) (C 33 (.seq (R [
 mv 34 0,
 mv 10 34]) .ret) .skip)) (.seq (R [
 mv 35 11,
 mv 36 2,
 mv 37 3,
 A 38 (.call id_sum_Update [(T 35), (T 36), (T 37)]),
 mv 11 38]) (.seq (.seq (R [
 mv 39 4,
 mv 40 39,
 wm 41 40 true 11,
 W 42 40 true (.bin .eql (T 41) (I 0)),
 kT 43 40 42]) (C 43 (R [
 mI 11 65535]) .skip)) (.seq (R [
 mv 44 0,
 mv 45 1,
 A 46 (.slc 0 (T 44) none (some (T 45))),
 mv 47 11,
 A 48 (.call id_fault_big [(T 47), (I 2)]),
 bT 49 .add 46 48,
 mv 50 0,
 mv 51 1,
 bI 52 .add 51 2,
 A 53 (.slc 0 (T 50) (some (T 52)) none),
 bT 54 .add 49 53,
 mv 10 54]) .ret))))))), [.tmp 10]⟩
def c_num_Reader_Text : MFn := ⟨2, 85, (.seq (R [
 A 4 (.mov (.cst (LV.str []))),
 A 5 (.mov (.cst LV.nili))]) (.seq (.block 0 (.seq (R [
 mv 33 0,
 A 34 (.eqNil 0 false (T 33)),
 mv 32 34]) (C 32 (.seq (R [
 A 35 (.build (LV.agg [(LV.int .i64 0), (LV.int .i64 0)]) [(0, (I 2))]),
 A 36 (.box (T 35)),
 A 37 (.mkIface ty_ptr_num_Fault (T 36)),
 A 4 (.mov (.cst (LV.str []))),
 mv 5 37]) .ret) (.seq (R [
 mv 39 0,
 A 40 (.nilCheck (T 39)),
 fa 41 2 2 40,
 ld 42 41,
 A 43 (.eqNil 0 true (T 42)),
 mv 38 43]) (C 38 .skip (.seq (R [
 mv 45 1,
 bI 46 .lss 45 0,
 mv 44 46]) (C 44 (R [
 mv 47 0,
 mv 48 0,
 A 49 (.nilCheck (T 48)),
 fa 50 1 1 49,
 ld 51 50,
 A 52 (.build (LV.agg [(LV.int .i64 0), (LV.int .i64 0)]) [(0, (I 1)), (1, (T 51))]),
 A 53 (.box (T 52)),
 A 54 (.nilCheck (T 47)),
 fa 55 2 2 54,
 B (.store 1 false (T 55) (T 53))]) (.seq (R [
 mv 57 1,
 mv 58 0,
 A 59 (.nilCheck (T 58)),
 fa 60 0 0 59,
 ld 61 60,
 lg 62 61,
 mv 63 0,
 A 64 (.nilCheck (T 63)),
 fa 65 1 1 64,
 ld 66 65,
 bT 67 .sub 62 66,
 bT 68 .gtr 57 67,
 mv 56 68]) (C 56 (R [
 mv 69 0,
 mv 70 0,
 A 71 (.nilCheck (T 70)),
 fa 72 1 1 71,
 ld 73 72,
 A 74 (.build (LV.agg [(LV.int .i64 0), (LV.int .i64 0)]) [(0, (I 7)), (1, (T 73))]),
 A 75 (.box (T 74)),
 A 76 (.nilCheck (T 69)),
 fa 77 2 2 76,
 B (.store 1 false (T 77) (T 75))]) (.seq (R [
 mv 8 0,
 A 9 (.nilCheck (T 8)),
 fa 10 0 0 9,
 ld 11 10,
 mv 12 0,
 A 13 (.nilCheck (T 12)),
 fa 14 1 1 13,
 ld 15 14,
 mv 16 0,
 A 17 (.nilCheck (T 16)),
 fa 18 1 1 17,
 ld 19 18,
 mv 20 1,
 bT 21 .add 19 20,
 A 22 (.slc 0 (T 11) (some (T 15)) (some (T 21))),
 mv 6 22]) (.seq (R [
 mv 23 0,
 A 24 (.nilCheck (T 23)),
 fa 25 1 1 24,
 ld 26 25,
 mv 27 1,
 bT 28 .add 26 27,
 A 29 (.nilCheck (T 23)),
 fa 30 1 1 29,
 B (.store 1 false (T 30) (T 28))]) (.seq (R [
 mv 31 6,
 mv 4 31,
 A 5 (.mov (.cst LV.nili))]) .ret)))))))))))) (.seq (R [
 mv 78 0,
 A 79 (.nilCheck (T 78)),
 fa 80 2 2 79,
 ld 81 80,
 A 82 (.nilCheck (T 81)),
 A 83 (.load 2 true (T 82)),
 A 7 (.alloc (LV.agg [(LV.int .i64 0), (LV.int .i64 0)])),
 B (.store 2 true (T 7) (T 83))]) (.seq (R [
 A 84 (.mkIface ty_ptr_num_Fault (T 7)),
 A 4 (.mov (.cst (LV.str []))),
 mv 5 84]) .ret)))), [.tmp 4, .tmp 5]⟩
def c_interpreterref01_Reader_Text : MFn := ⟨2, 92, (.seq (R [
 A 4 (.mov (.cst (LV.str []))),
 mI 5 0]) (.seq (.seq (R [
 mv 8 0,
 A 9 (.nilCheck (T 8)),
 fa 10 2 2 9,
 ld 11 10,
 bI 12 .neq 11 0]) (C 12 (.seq (R [
 mv 13 0,
 A 14 (.nilCheck (T 13)),
 fa 15 2 2 14,
 ld 16 15,
 A 4 (.mov (.cst (LV.str []))),
 mv 5 16]) .ret) .skip)) (.seq (.seq (R [
 mv 17 1,
 bI 18 .lss 17 0]) (C 18 (R [
 mv 19 0,
 A 20 (.nilCheck (T 19)),
 fa 21 2 2 20,
 B (.store 1 false (T 21) (I 1))]) (.seq (R [
 mv 22 1,
 mv 23 0,
 A 24 (.nilCheck (T 23)),
 fa 25 0 0 24,
 ld 26 25,
 lg 27 26,
 bT 28 .gtr 22 27,
 mv 29 28,
 wm 30 29 false 0,
 W 31 29 false (.nilCheck (T 30)),
 wf 32 29 false 1 1 31,
 wl 33 29 false 32,
 wm 34 29 false 0,
 W 35 29 false (.nilCheck (T 34)),
 wf 36 29 false 0 0 35,
 wl 37 29 false 36,
 W 38 29 false (.len true (T 37)),
 wm 39 29 false 1,
 W 40 29 false (.bin .sub (T 38) (T 39)),
 W 41 29 false (.bin .gtr (T 33) (T 40)),
 kF 42 29 41]) (C 42 (R [
 mv 43 0,
 A 44 (.nilCheck (T 43)),
 fa 45 2 2 44,
 B (.store 1 false (T 45) (I 7))]) .skip)))) (.seq (.seq (R [
 mv 46 0,
 A 47 (.nilCheck (T 46)),
 fa 48 2 2 47,
 ld 49 48,
 bI 50 .neq 49 0]) (C 50 (.seq (R [
 mv 51 0,
 mv 52 0,
 A 53 (.nilCheck (T 52)),
 fa 54 1 1 53,
 ld 55 54,
 A 56 (.nilCheck (T 51)),
 fa 57 3 3 56,
 B (.store 1 false (T 57) (T 55))]) (.seq (R [
 mv 58 0,
 A 59 (.nilCheck (T 58)),
 fa 60 2 2 59,
 ld 61 60,
 A 4 (.mov (.cst (LV.str []))),
 mv 5 61]) .ret)) .skip)) (.seq (R [
 A 6 (.mov (.cst (LV.str [])))]) (.seq (.seq (R [
 mI 7 0]) (.block 0 (.loop [6, 7] [62, 63, 64, 67, 68, 69, 70, 71, 72, 73, 74, 75, 76, 77, 78, 79, 80, 81, 82, 83, 84, 85, 86, 87, 88, 89, 90, 65, 66] (.seq (.seq (R [
 mv 62 7,
 mv 63 1,
 bT 64 .lss 62 63]) (C 64 .skip (.exit 0))) (.seq (.block 1 (.seq (R [
 mv 67 6,
 mv 68 0,
 A 69 (.nilCheck (T 68)),
 fa 70 0 0 69,
 ld 71 70,
 mv 72 0,
 A 73 (.nilCheck (T 72)),
 fa 74 1 1 73,
 ld 75 74,
 mv 76 0,
 A 77 (.nilCheck (T 76)),
 fa 78 1 1 77,
 ld 79 78,
 bI 80 .add 79 1,
 A 81 (.slc 0 (T 71) (some (T 75)) (some (T 80))),
 bT 82 .add 67 81,
 mv 6 82]) (R [
 mv 83 0,
 mv 84 0,
 A 85 (.nilCheck (T 84)),
 fa 86 1 1 85,
 ld 87 86,
 bI 88 .add 87 1,
 A 89 (.nilCheck (T 83)),
 fa 90 1 1 89,
 B (.store 1 false (T 90) (T 88))]))) (R [
 mv 65 7,
 bI 66 .add 65 1,
 mv 7 66])))))) (.seq (R [
 mv 91 6,
 mv 4 91,
 mI 5 0]) .ret))))))), [.tmp 4, .tmp 5]⟩
def c_sum_Update : MFn := ⟨3, 21, (.seq (R [
 mI 6 0]) (.seq (R [
 mv 8 0,
 bI 9 .and 8 65535,
 A 10 (.bin .sub (I 65535) (T 9)),
 mv 7 10]) (.seq (R [
 mv 11 7,
 mv 12 1,
 A 13 (.call id_sum_even [(T 12)]),
 A 14 (.call id_sum_add [(T 11), (I 0), (T 13), (.cst (LV.int .u8 255))]),
 A 15 (.call id_sum_fold [(T 14)]),
 mv 7 15]) (.seq (R [
 mv 16 7,
 mv 17 2,
 A 18 (.call id_sum_add [(T 16), (I 0), (T 17), (.cst (LV.int .u8 0))]),
 A 19 (.call id_sum_fold [(T 18)]),
 A 20 (.bin .sub (I 65535) (T 19)),
 mv 6 20]) .ret)))), [.tmp 6]⟩
def c_sum_even : MFn := ⟨1, 10, (.seq (R [
 A 2 (.mov (.cst (LV.str [])))]) (.seq (.seq (R [
 mv 3 0,
 lg 4 3,
 bI 5 .rem 4 2,
 bI 6 .eql 5 1]) (C 6 (R [
 mv 7 0,
 A 8 (.bin .add (T 7) (.cst (LV.str [0]))),
 mv 0 8]) .skip)) (.seq (R [
 mv 9 0,
 mv 2 9]) .ret))), [.tmp 2]⟩
end Go.Ev
