/- Part 4 of a proof: what the functions yield. It stands by itself; no condition. -/
import Derived.Test.YtpjbapmhahlekaaE3
import Derived.KernelRfl
import Derived.Test.YtpjbapmhahlekaaE2
/- The functions, in plain Lean. -/
namespace Go.Ev
set_option linter.unusedVariables false
set_option maxRecDepth 100000
/-- interpreter/interpreterlaw03.Ip4Writes -/
noncomputable def F_interpreterlaw03_Ip4Writes (g : Call) (a0 : LV) : Option (LV × Option LV) :=
 (pr.box a0).bind fun t1_0 =>
 (pr.call g id_interpreterlaw03_awake noSlots []).bind fun t7_2 =>
 (pr.un .not t7_2).bind fun t8_3 =>
 condK t8_3 (
 pr.fin none noSlots [(LV.bool false)]) (
 (pr.fieldAddr 10 16 t1_0).bind fun t9_5 =>
 (pr.load 1 false noSlots t9_5).bind fun t10_6 =>
 (pr.len true t10_6).bind fun t11_7 =>
 (pr.bin .gtr t11_7 (LV.int .i64 70000)).bind fun t12_8 =>
 (pr.guard t12_8 false).bind fun b10 =>
 (if b10 = true then pr.fieldAddr 9 15 t1_0 else some LV.undef).bind fun t14_10 =>
 (pr.guard t12_8 false).bind fun b11 =>
 (if b11 = true then pr.load 1 false noSlots t14_10 else some LV.undef).bind fun t15_11 =>
 (pr.guard t12_8 false).bind fun b12 =>
 (if b12 = true then pr.len true t15_11 else some LV.undef).bind fun t16_12 =>
 (pr.guard t12_8 false).bind fun b13 =>
 (if b13 = true then pr.bin .gtr t16_12 (LV.int .i64 1000) else some LV.undef).bind fun t17_13 =>
 (pr.pick t12_8 (LV.bool true) t17_13).bind fun t18_14 =>
 condK t18_14 (
 pr.fin none noSlots [(LV.bool true)]) (
 (pr.load 17 true noSlots t1_0).bind fun t20_16 =>
 (pr.call g id_ip4_Bytes noSlots [t20_16]).bind fun t21_17 =>
 (pr.extract t21_17 0).bind fun t22_19 =>
 (pr.extract t21_17 1).bind fun t23_20 =>
 (pr.load 17 true noSlots t1_0).bind fun t25_23 =>
 (pr.call g id_interpreterref03_Bytes noSlots [t25_23]).bind fun t26_24 =>
 (pr.extract t26_24 0).bind fun t27_26 =>
 (pr.extract t26_24 1).bind fun t28_27 =>
 (pr.bin .eql t22_19 t27_26).bind fun t31_32 =>
 (pr.guard t31_32 true).bind fun b34 =>
 (if b34 = true then some t23_20 else some LV.undef).bind fun t33_34 =>
 (pr.guard t31_32 true).bind fun b35 =>
 (if b35 = true then some t28_27 else some LV.undef).bind fun t34_35 =>
 (pr.guard t31_32 true).bind fun b36 =>
 (if b36 = true then pr.call g id_interpreterlaw03_same noSlots [t33_34, t34_35] else some LV.undef).bind fun t35_36 =>
 (pr.pick t31_32 t35_36 (LV.bool false)).bind fun t36_37 =>
 pr.fin none noSlots [t36_37]))
theorem F_interpreterlaw03_Ip4Writes_eq (g : Call) (a0 : LV) : fnEv g c_interpreterlaw03_Ip4Writes [a0] none = F_interpreterlaw03_Ip4Writes g a0 := by kernel_rfl

/-- interpreter/interpreterlaw03.Ip4Reads -/
noncomputable def F_interpreterlaw03_Ip4Reads (g : Call) (a0 : LV) : Option (LV × Option LV) :=
 (pr.call g id_interpreterlaw03_awake noSlots []).bind fun t7_1 =>
 (pr.un .not t7_1).bind fun t8_2 =>
 condK t8_2 (
 pr.fin none noSlots [(LV.bool false)]) (
 (pr.len true a0).bind fun t10_5 =>
 (pr.bin .gtr t10_5 (LV.int .i64 70000)).bind fun t11_6 =>
 condK t11_6 (
 pr.fin none noSlots [(LV.bool true)]) (
 (pr.call g id_ip4_Parse noSlots [a0]).bind fun t14_9 =>
 (pr.extract t14_9 0).bind fun t15_11 =>
 (pr.extract t14_9 1).bind fun t16_12 =>
 (pr.alloc (LV.agg [(LV.int .i64 0), (LV.int .i64 0), (LV.int .i64 0), (LV.int .i64 0), (LV.int .i64 0), (LV.bool false), (LV.bool false), (LV.bytes [0, 0, 0, 0]), (LV.bytes [0, 0, 0, 0]), (LV.str []), (LV.str [])]) 3 noSlots).bind fun t3_13 =>
 (pr.store 17 true t3_13.2 t3_13.1 t15_11).bind fun u14 =>
 (pr.call g id_interpreterref03_Parse u14.2 [a0]).bind fun t19_17 =>
 (pr.extract t19_17 0).bind fun t20_19 =>
 (pr.extract t19_17 1).bind fun t21_20 =>
 (pr.alloc (LV.agg [(LV.int .i64 0), (LV.int .i64 0), (LV.int .i64 0), (LV.int .i64 0), (LV.int .i64 0), (LV.bool false), (LV.bool false), (LV.bytes [0, 0, 0, 0]), (LV.bytes [0, 0, 0, 0]), (LV.str []), (LV.str [])]) 5 u14.2).bind fun t5_21 =>
 (pr.store 17 true t5_21.2 t5_21.1 t20_19).bind fun u22 =>
 (pr.load 17 true u22.2 t3_13.1).bind fun t22_24 =>
 (pr.load 17 true u22.2 t5_21.1).bind fun t23_25 =>
 (pr.eqS (Sh.agg [(Sh.int .i64), (Sh.int .i64), (Sh.int .i64), (Sh.int .i64), (Sh.int .i64), Sh.bool, Sh.bool, (Sh.bytes 4), (Sh.bytes 4), Sh.str, Sh.str]) false t22_24 t23_25).bind fun t24_26 =>
 (pr.guard t24_26 true).bind fun b28 =>
 (if b28 = true then some t16_12 else some LV.undef).bind fun t26_28 =>
 (pr.guard t24_26 true).bind fun b29 =>
 (if b29 = true then some t21_20 else some LV.undef).bind fun t27_29 =>
 (pr.guard t24_26 true).bind fun b30 =>
 (if b30 = true then pr.call g id_interpreterlaw03_same u22.2 [t26_28, t27_29] else some LV.undef).bind fun t28_30 =>
 (pr.pick t24_26 t28_30 (LV.bool false)).bind fun t29_31 =>
 pr.fin none u22.2 [t29_31]))
theorem F_interpreterlaw03_Ip4Reads_eq (g : Call) (a0 : LV) : fnEv g c_interpreterlaw03_Ip4Reads [a0] none = F_interpreterlaw03_Ip4Reads g a0 := by kernel_rfl

/-- interpreter/interpreterlaw03.Ip4Heads -/
noncomputable def F_interpreterlaw03_Ip4Heads (g : Call) (a0 : LV) : Option (LV × Option LV) :=
 (pr.call g id_interpreterlaw03_awake noSlots []).bind fun t5_1 =>
 (pr.un .not t5_1).bind fun t6_2 =>
 condK t6_2 (
 pr.fin none noSlots [(LV.bool false)]) (
 (pr.len true a0).bind fun t8_5 =>
 (pr.bin .gtr t8_5 (LV.int .i64 70000)).bind fun t9_6 =>
 (pr.guard t9_6 false).bind fun b8 =>
 (if b8 = true then some a0 else some LV.undef).bind fun t11_8 =>
 (pr.guard t9_6 false).bind fun b9 =>
 (if b9 = true then pr.len true t11_8 else some LV.undef).bind fun t12_9 =>
 (pr.guard t9_6 false).bind fun b10 =>
 (if b10 = true then pr.bin .lss t12_9 (LV.int .i64 20) else some LV.undef).bind fun t13_10 =>
 (pr.pick t9_6 (LV.bool true) t13_10).bind fun t14_11 =>
 condK t14_11 (
 pr.fin none noSlots [(LV.bool true)]) (
 (pr.idxStr a0 (LV.int .i64 0)).bind fun t16_14 =>
 (pr.bin .and t16_14 (LV.int .u8 15)).bind fun t17_15 =>
 (pr.conv .i64 t17_15).bind fun t18_16 =>
 (pr.bin .mul (LV.int .i64 4) t18_16).bind fun t19_17 =>
 (pr.bin .lss t19_17 (LV.int .i64 20)).bind fun t21_20 =>
 (pr.guard t21_20 false).bind fun b22 =>
 (if b22 = true then some t19_17 else some LV.undef).bind fun t23_22 =>
 (pr.guard t21_20 false).bind fun b23 =>
 (if b23 = true then some a0 else some LV.undef).bind fun t24_23 =>
 (pr.guard t21_20 false).bind fun b24 =>
 (if b24 = true then pr.len true t24_23 else some LV.undef).bind fun t25_24 =>
 (pr.guard t21_20 false).bind fun b25 =>
 (if b25 = true then pr.bin .gtr t23_22 t25_24 else some LV.undef).bind fun t26_25 =>
 (pr.pick t21_20 (LV.bool true) t26_25).bind fun t27_26 =>
 condK t27_26 (
 (pr.call g id_interpreterlaw03_Ip4Reads noSlots [a0]).bind fun t29_28 =>
 pr.fin none noSlots [t29_28]) (
 (pr.slc 0 a0 none (some (LV.int .i64 10))).bind fun t31_31 =>
 (pr.bin .add t31_31 (LV.str [0, 0])).bind fun t32_32 =>
 (pr.slc 0 a0 (some (LV.int .i64 12)) (some t19_17)).bind fun t35_35 =>
 (pr.bin .add t32_32 t35_35).bind fun t36_36 =>
 (pr.call g id_interpreterref02_Of noSlots [t36_36]).bind fun t37_37 =>
 (pr.slc 0 a0 none (some (LV.int .i64 10))).bind fun t39_40 =>
 (pr.bin .quo t37_37 (LV.int .i64 256)).bind fun t41_42 =>
 (pr.conv .u8 t41_42).bind fun t42_43 =>
 (pr.bin .rem t37_37 (LV.int .i64 256)).bind fun t44_45 =>
 (pr.conv .u8 t44_45).bind fun t45_46 =>
 (pr.bsl (LV.int .u8 0) 2 [(0, t42_43), (1, t45_46)]).bind fun t46_47 =>
 (pr.b2s noSlots t46_47).bind fun t47_48 =>
 (pr.bin .add t39_40 t47_48).bind fun t48_49 =>
 (pr.slc 0 a0 (some (LV.int .i64 12)) none).bind fun t50_51 =>
 (pr.bin .add t48_49 t50_51).bind fun t51_52 =>
 (pr.call g id_interpreterlaw03_Ip4Reads noSlots [t51_52]).bind fun t52_53 =>
 pr.fin none noSlots [t52_53])))
theorem F_interpreterlaw03_Ip4Heads_eq (g : Call) (a0 : LV) : fnEv g c_interpreterlaw03_Ip4Heads [a0] none = F_interpreterlaw03_Ip4Heads g a0 := by kernel_rfl

/-- interpreter/interpreterlaw03.Ip4Back -/
noncomputable def F_interpreterlaw03_Ip4Back (g : Call) (a0 : LV) (a1 : LV) (a2 : LV) (a3 : LV) : Option (LV × Option LV) :=
 (pr.box a0).bind fun t4_0 =>
 (pr.call g id_interpreterlaw03_awake noSlots []).bind fun t21_2 =>
 (pr.un .not t21_2).bind fun t22_3 =>
 condK t22_3 (
 pr.fin none noSlots [(LV.bool false)]) (
 (pr.fieldAddr 10 16 t4_0).bind fun t23_5 =>
 (pr.load 1 false noSlots t23_5).bind fun t24_6 =>
 (pr.len true t24_6).bind fun t25_7 =>
 (pr.bin .gtr t25_7 (LV.int .i64 70000)).bind fun t26_8 =>
 (pr.guard t26_8 false).bind fun b10 =>
 (if b10 = true then pr.fieldAddr 9 15 t4_0 else some LV.undef).bind fun t28_10 =>
 (pr.guard t26_8 false).bind fun b11 =>
 (if b11 = true then pr.load 1 false noSlots t28_10 else some LV.undef).bind fun t29_11 =>
 (pr.guard t26_8 false).bind fun b12 =>
 (if b12 = true then pr.len true t29_11 else some LV.undef).bind fun t30_12 =>
 (pr.guard t26_8 false).bind fun b13 =>
 (if b13 = true then pr.bin .gtr t30_12 (LV.int .i64 1000) else some LV.undef).bind fun t31_13 =>
 (pr.pick t26_8 (LV.bool true) t31_13).bind fun t32_14 =>
 (pr.guard t32_14 false).bind fun b16 =>
 (if b16 = true then some a1 else some LV.undef).bind fun t34_16 =>
 (pr.guard t32_14 false).bind fun b17 =>
 (if b17 = true then pr.len true t34_16 else some LV.undef).bind fun t35_17 =>
 (pr.guard t32_14 false).bind fun b18 =>
 (if b18 = true then pr.bin .gtr t35_17 (LV.int .i64 1000) else some LV.undef).bind fun t36_18 =>
 (pr.pick t32_14 (LV.bool true) t36_18).bind fun t37_19 =>
 condK t37_19 (
 pr.fin none noSlots [(LV.bool true)]) (
 (pr.load 17 true noSlots t4_0).bind fun t39_21 =>
 (pr.call g id_ip4_Bytes noSlots [t39_21]).bind fun t40_22 =>
 (pr.extract t40_22 0).bind fun t41_24 =>
 (pr.extract t40_22 1).bind fun t42_25 =>
 (pr.eqNil 1 true t42_25).bind fun t44_29 =>
 condK t44_29 (
 (pr.bin .eql t41_24 (LV.str [])).bind fun t46_31 =>
 pr.fin none noSlots [t46_31]) (
 (pr.fieldAddr 9 15 t4_0).bind fun t47_33 =>
 (pr.load 1 false noSlots t47_33).bind fun t48_34 =>
 (pr.len true t48_34).bind fun t49_35 =>
 (pr.bin .add (LV.int .i64 20) t49_35).bind fun t50_36 =>
 (pr.len true t41_24).bind fun t52_39 =>
 (pr.fieldAddr 10 16 t4_0).bind fun t54_41 =>
 (pr.load 1 false noSlots t54_41).bind fun t55_42 =>
 (pr.len true t55_42).bind fun t56_43 =>
 (pr.bin .add t50_36 t56_43).bind fun t57_44 =>
 (pr.bin .neq t52_39 t57_44).bind fun t58_45 =>
 (pr.guard t58_45 false).bind fun b47 =>
 (if b47 = true then some t41_24 else some LV.undef).bind fun t60_47 =>
 (pr.guard t58_45 false).bind fun b48 =>
 (if b48 = true then some t50_36 else some LV.undef).bind fun t61_48 =>
 (pr.guard t58_45 false).bind fun b49 =>
 (if b49 = true then pr.slc 0 t60_47 none (some t61_48) else some LV.undef).bind fun t62_49 =>
 (pr.guard t58_45 false).bind fun b50 =>
 (if b50 = true then pr.bsl (LV.str []) 1 [(0, t62_49)] else some LV.undef).bind fun t63_50 =>
 (pr.guard t58_45 false).bind fun b51 =>
 (if b51 = true then pr.call g id_sum_Right noSlots [t63_50] else some LV.undef).bind fun t64_51 =>
 (pr.guard t58_45 false).bind fun b52 =>
 (if b52 = true then pr.un .not t64_51 else some LV.undef).bind fun t65_52 =>
 (pr.pick t58_45 (LV.bool true) t65_52).bind fun t66_53 =>
 (pr.guard t66_53 false).bind fun b55 =>
 (if b55 = true then some t41_24 else some LV.undef).bind fun t68_55 =>
 (pr.guard t66_53 false).bind fun b56 =>
 (if b56 = true then some t50_36 else some LV.undef).bind fun t69_56 =>
 (pr.guard t66_53 false).bind fun b57 =>
 (if b57 = true then pr.slc 0 t68_55 (some t69_56) none else some LV.undef).bind fun t70_57 =>
 (pr.guard t66_53 false).bind fun b58 =>
 (if b58 = true then pr.fieldAddr 10 16 t4_0 else some LV.undef).bind fun t71_58 =>
 (pr.guard t66_53 false).bind fun b59 =>
 (if b59 = true then pr.load 1 false noSlots t71_58 else some LV.undef).bind fun t72_59 =>
 (pr.guard t66_53 false).bind fun b60 =>
 (if b60 = true then pr.bin .neq t70_57 t72_59 else some LV.undef).bind fun t73_60 =>
 (pr.pick t66_53 (LV.bool true) t73_60).bind fun t74_61 =>
 (pr.guard t74_61 false).bind fun b63 =>
 (if b63 = true then some t41_24 else some LV.undef).bind fun t76_63 =>
 (pr.guard t74_61 false).bind fun b64 =>
 (if b64 = true then some t50_36 else some LV.undef).bind fun t77_64 =>
 (pr.guard t74_61 false).bind fun b65 =>
 (if b65 = true then pr.slc 0 t76_63 (some (LV.int .i64 20)) (some t77_64) else some LV.undef).bind fun t78_65 =>
 (pr.guard t74_61 false).bind fun b66 =>
 (if b66 = true then pr.fieldAddr 9 15 t4_0 else some LV.undef).bind fun t79_66 =>
 (pr.guard t74_61 false).bind fun b67 =>
 (if b67 = true then pr.load 1 false noSlots t79_66 else some LV.undef).bind fun t80_67 =>
 (pr.guard t74_61 false).bind fun b68 =>
 (if b68 = true then pr.bin .neq t78_65 t80_67 else some LV.undef).bind fun t81_68 =>
 (pr.pick t74_61 (LV.bool true) t81_68).bind fun t82_69 =>
 condK t82_69 (
 pr.fin none noSlots [(LV.bool false)]) (
 (pr.bin .add t41_24 a1).bind fun t86_73 =>
 (pr.call g id_ip4_Parse noSlots [t86_73]).bind fun t87_74 =>
 (pr.extract t87_74 0).bind fun t88_76 =>
 (pr.extract t87_74 1).bind fun t89_77 =>
 (pr.alloc (LV.agg [(LV.int .i64 0), (LV.int .i64 0), (LV.int .i64 0), (LV.int .i64 0), (LV.int .i64 0), (LV.bool false), (LV.bool false), (LV.bytes [0, 0, 0, 0]), (LV.bytes [0, 0, 0, 0]), (LV.str []), (LV.str [])]) 12 noSlots).bind fun t12_78 =>
 (pr.store 17 true t12_78.2 t12_78.1 t88_76).bind fun u79 =>
 (pr.len true t41_24).bind fun t93_83 =>
 (pr.bin .sub t93_83 (LV.int .i64 1)).bind fun t94_84 =>
 (pr.slc 0 t41_24 none (some t94_84)).bind fun t95_85 =>
 (pr.call g id_ip4_Parse u79.2 [t95_85]).bind fun t96_86 =>
 (pr.extract t96_86 0).bind fun t97_88 =>
 (pr.extract t96_86 1).bind fun t98_89 =>
 (pr.alloc (LV.agg [(LV.int .i64 0), (LV.int .i64 0), (LV.int .i64 0), (LV.int .i64 0), (LV.int .i64 0), (LV.bool false), (LV.bool false), (LV.bytes [0, 0, 0, 0]), (LV.bytes [0, 0, 0, 0]), (LV.str []), (LV.str [])]) 14 u79.2).bind fun t14_90 =>
 (pr.store 17 true t14_90.2 t14_90.1 t97_88).bind fun u91 =>
 (pr.s2b 100 u91.2 t41_24).bind fun t100_94 =>
 (pr.conv .i64 a2).bind fun t102_97 =>
 (pr.bin .rem t102_97 t50_36).bind fun t104_99 =>
 (pr.idxAddr none 1 t100_94.1 t104_99).bind fun t109_105 =>
 (pr.load 1 false t100_94.2 t109_105).bind fun t110_106 =>
 (pr.bin .rem a3 (LV.int .u8 8)).bind fun t112_108 =>
 (pr.bin .shl (LV.int .u8 1) t112_108).bind fun t113_109 =>
 (pr.bin .xor t110_106 t113_109).bind fun t114_110 =>
 (pr.idxAddr none 1 t100_94.1 t104_99).bind fun t115_111 =>
 (pr.store 1 false t100_94.2 t115_111 t114_110).bind fun u112 =>
 (pr.b2s u112.2 t100_94.1).bind fun t118_114 =>
 (pr.call g id_ip4_Parse u112.2 [t118_114]).bind fun t119_115 =>
 (pr.extract t119_115 0).bind fun t120_117 =>
 (pr.extract t119_115 1).bind fun t121_118 =>
 (pr.alloc (LV.agg [(LV.int .i64 0), (LV.int .i64 0), (LV.int .i64 0), (LV.int .i64 0), (LV.int .i64 0), (LV.bool false), (LV.bool false), (LV.bytes [0, 0, 0, 0]), (LV.bytes [0, 0, 0, 0]), (LV.str []), (LV.str [])]) 18 u112.2).bind fun t18_119 =>
 (pr.store 17 true t18_119.2 t18_119.1 t120_117).bind fun u120 =>
 (pr.bin .eql t104_99 (LV.int .i64 0)).bind fun t123_123 =>
 (pr.guard t123_123 true).bind fun b125 =>
 (if b125 = true then some a3 else some LV.undef).bind fun t125_125 =>
 (pr.guard t123_123 true).bind fun b126 =>
 (if b126 = true then pr.bin .rem t125_125 (LV.int .u8 8) else some LV.undef).bind fun t126_126 =>
 (pr.guard t123_123 true).bind fun b127 =>
 (if b127 = true then pr.bin .lss t126_126 (LV.int .u8 4) else some LV.undef).bind fun t127_127 =>
 (pr.pick t123_123 t127_127 (LV.bool false)).bind fun t128_128 =>
 (pr.eqNil 1 false t89_77).bind fun t130_131 =>
 (pr.guard t130_131 true).bind fun b133 =>
 (if b133 = true then pr.load 17 true u120.2 t12_78.1 else some LV.undef).bind fun t132_133 =>
 (pr.guard t130_131 true).bind fun b134 =>
 (if b134 = true then pr.load 17 true u120.2 t4_0 else some LV.undef).bind fun t133_134 =>
 (pr.guard t130_131 true).bind fun b135 =>
 (if b135 = true then pr.eqS (Sh.agg [(Sh.int .i64), (Sh.int .i64), (Sh.int .i64), (Sh.int .i64), (Sh.int .i64), Sh.bool, Sh.bool, (Sh.bytes 4), (Sh.bytes 4), Sh.str, Sh.str]) false t132_133 t133_134 else some LV.undef).bind fun t134_135 =>
 (pr.pick t130_131 t134_135 (LV.bool false)).bind fun t135_136 =>
 (pr.guard t135_136 true).bind fun b138 =>
 (if b138 = true then some t98_89 else some LV.undef).bind fun t137_138 =>
 (pr.guard t135_136 true).bind fun b139 =>
 (if b139 = true then pr.eqNil 1 true t137_138 else some LV.undef).bind fun t138_139 =>
 (pr.pick t135_136 t138_139 (LV.bool false)).bind fun t139_140 =>
 (pr.guard t139_140 true).bind fun b142 =>
 (if b142 = true then some t128_128 else some LV.undef).bind fun t141_142 =>
 (pr.guard t139_140 true).bind fun b143 =>
 (if b143 = true then some t141_142 else some LV.undef).bind fun t142_143 =>
 (pr.guard t142_143 false).bind fun b144 =>
 (if b144 = true then some t121_118 else some LV.undef).bind fun t143_144 =>
 (pr.guard t142_143 false).bind fun b145 =>
 (if b145 = true then pr.eqNil 1 true t143_144 else some LV.undef).bind fun t144_145 =>
 (pr.guard t142_143 false).bind fun b146 =>
 (if b146 = true then some t144_145 else some LV.undef).bind fun t145_146 =>
 (pr.guard t145_146 true).bind fun b147 =>
 (if b147 = true then pr.load 17 true u120.2 t18_119.1 else some LV.undef).bind fun t146_147 =>
 (pr.guard t145_146 true).bind fun b148 =>
 (if b148 = true then pr.parts (LV.agg [(LV.int .i64 0), (LV.int .i64 0), (LV.int .i64 0), (LV.int .i64 0), (LV.int .i64 0), (LV.bool false), (LV.bool false), (LV.bytes [0, 0, 0, 0]), (LV.bytes [0, 0, 0, 0]), (LV.str []), (LV.str [])]) [] else some LV.undef).bind fun t147_148 =>
 (pr.guard t145_146 true).bind fun b149 =>
 (if b149 = true then pr.eqS (Sh.agg [(Sh.int .i64), (Sh.int .i64), (Sh.int .i64), (Sh.int .i64), (Sh.int .i64), Sh.bool, Sh.bool, (Sh.bytes 4), (Sh.bytes 4), Sh.str, Sh.str]) false t146_147 t147_148 else some LV.undef).bind fun t148_149 =>
 (pr.guard t142_143 false).bind fun b150 =>
 (if b150 = true then pr.pick t145_146 t148_149 (LV.bool false) else some LV.undef).bind fun t149_150 =>
 (pr.guard t139_140 true).bind fun b151 =>
 (if b151 = true then pr.pick t142_143 (LV.bool true) t149_150 else some LV.undef).bind fun t150_151 =>
 (pr.pick t139_140 t150_151 (LV.bool false)).bind fun t151_152 =>
 pr.fin none u120.2 [t151_152]))))
theorem F_interpreterlaw03_Ip4Back_eq (g : Call) (a0 : LV) (a1 : LV) (a2 : LV) (a3 : LV) : fnEv g c_interpreterlaw03_Ip4Back [a0, a1, a2, a3] none = F_interpreterlaw03_Ip4Back g a0 a1 a2 a3 := by kernel_rfl

/-- interpreter/interpreterlaw03.Ip4Again -/
noncomputable def F_interpreterlaw03_Ip4Again (g : Call) (a0 : LV) : Option (LV × Option LV) :=
 (pr.call g id_interpreterlaw03_awake noSlots []).bind fun t9_1 =>
 (pr.un .not t9_1).bind fun t10_2 =>
 condK t10_2 (
 pr.fin none noSlots [(LV.bool false)]) (
 (pr.len true a0).bind fun t12_5 =>
 (pr.bin .gtr t12_5 (LV.int .i64 70000)).bind fun t13_6 =>
 condK t13_6 (
 pr.fin none noSlots [(LV.bool true)]) (
 (pr.call g id_ip4_Parse noSlots [a0]).bind fun t16_9 =>
 (pr.extract t16_9 0).bind fun t17_11 =>
 (pr.extract t16_9 1).bind fun t18_12 =>
 (pr.alloc (LV.agg [(LV.int .i64 0), (LV.int .i64 0), (LV.int .i64 0), (LV.int .i64 0), (LV.int .i64 0), (LV.bool false), (LV.bool false), (LV.bytes [0, 0, 0, 0]), (LV.bytes [0, 0, 0, 0]), (LV.str []), (LV.str [])]) 3 noSlots).bind fun t3_13 =>
 (pr.store 17 true t3_13.2 t3_13.1 t17_11).bind fun u14 =>
 (pr.eqNil 1 true t18_12).bind fun t20_17 =>
 condK t20_17 (
 (pr.load 17 true u14.2 t3_13.1).bind fun t21_18 =>
 (pr.parts (LV.agg [(LV.int .i64 0), (LV.int .i64 0), (LV.int .i64 0), (LV.int .i64 0), (LV.int .i64 0), (LV.bool false), (LV.bool false), (LV.bytes [0, 0, 0, 0]), (LV.bytes [0, 0, 0, 0]), (LV.str []), (LV.str [])]) []).bind fun t22_19 =>
 (pr.eqS (Sh.agg [(Sh.int .i64), (Sh.int .i64), (Sh.int .i64), (Sh.int .i64), (Sh.int .i64), Sh.bool, Sh.bool, (Sh.bytes 4), (Sh.bytes 4), Sh.str, Sh.str]) false t21_18 t22_19).bind fun t23_20 =>
 pr.fin none u14.2 [t23_20]) (
 (pr.load 17 true u14.2 t3_13.1).bind fun t25_22 =>
 (pr.call g id_ip4_Bytes u14.2 [t25_22]).bind fun t26_23 =>
 (pr.extract t26_23 0).bind fun t27_25 =>
 (pr.extract t26_23 1).bind fun t28_26 =>
 (pr.call g id_ip4_Parse u14.2 [t27_25]).bind fun t31_30 =>
 (pr.extract t31_30 0).bind fun t32_32 =>
 (pr.extract t31_30 1).bind fun t33_33 =>
 (pr.alloc (LV.agg [(LV.int .i64 0), (LV.int .i64 0), (LV.int .i64 0), (LV.int .i64 0), (LV.int .i64 0), (LV.bool false), (LV.bool false), (LV.bytes [0, 0, 0, 0]), (LV.bytes [0, 0, 0, 0]), (LV.str []), (LV.str [])]) 7 u14.2).bind fun t7_34 =>
 (pr.store 17 true t7_34.2 t7_34.1 t32_32).bind fun u35 =>
 (pr.eqNil 1 false t28_26).bind fun t35_38 =>
 (pr.guard t35_38 true).bind fun b40 =>
 (if b40 = true then some t33_33 else some LV.undef).bind fun t37_40 =>
 (pr.guard t35_38 true).bind fun b41 =>
 (if b41 = true then pr.eqNil 1 false t37_40 else some LV.undef).bind fun t38_41 =>
 (pr.pick t35_38 t38_41 (LV.bool false)).bind fun t39_42 =>
 (pr.guard t39_42 true).bind fun b44 =>
 (if b44 = true then pr.load 17 true u35.2 t3_13.1 else some LV.undef).bind fun t41_44 =>
 (pr.guard t39_42 true).bind fun b45 =>
 (if b45 = true then pr.load 17 true u35.2 t7_34.1 else some LV.undef).bind fun t42_45 =>
 (pr.guard t39_42 true).bind fun b46 =>
 (if b46 = true then pr.eqS (Sh.agg [(Sh.int .i64), (Sh.int .i64), (Sh.int .i64), (Sh.int .i64), (Sh.int .i64), Sh.bool, Sh.bool, (Sh.bytes 4), (Sh.bytes 4), Sh.str, Sh.str]) false t41_44 t42_45 else some LV.undef).bind fun t43_46 =>
 (pr.pick t39_42 t43_46 (LV.bool false)).bind fun t44_47 =>
 (pr.guard t44_47 true).bind fun b49 =>
 (if b49 = true then some t27_25 else some LV.undef).bind fun t46_49 =>
 (pr.guard t44_47 true).bind fun b50 =>
 (if b50 = true then pr.len true t46_49 else some LV.undef).bind fun t47_50 =>
 (pr.guard t44_47 true).bind fun b51 =>
 (if b51 = true then some a0 else some LV.undef).bind fun t48_51 =>
 (pr.guard t44_47 true).bind fun b52 =>
 (if b52 = true then pr.len true t48_51 else some LV.undef).bind fun t49_52 =>
 (pr.guard t44_47 true).bind fun b53 =>
 (if b53 = true then pr.bin .leq t47_50 t49_52 else some LV.undef).bind fun t50_53 =>
 (pr.pick t44_47 t50_53 (LV.bool false)).bind fun t51_54 =>
 (pr.guard t51_54 true).bind fun b56 =>
 (if b56 = true then some t27_25 else some LV.undef).bind fun t53_56 =>
 (pr.guard t51_54 true).bind fun b57 =>
 (if b57 = true then pr.slc 0 t53_56 none (some (LV.int .i64 10)) else some LV.undef).bind fun t54_57 =>
 (pr.guard t51_54 true).bind fun b58 =>
 (if b58 = true then some a0 else some LV.undef).bind fun t55_58 =>
 (pr.guard t51_54 true).bind fun b59 =>
 (if b59 = true then pr.slc 0 t55_58 none (some (LV.int .i64 10)) else some LV.undef).bind fun t56_59 =>
 (pr.guard t51_54 true).bind fun b60 =>
 (if b60 = true then pr.bin .eql t54_57 t56_59 else some LV.undef).bind fun t57_60 =>
 (pr.pick t51_54 t57_60 (LV.bool false)).bind fun t58_61 =>
 (pr.guard t58_61 true).bind fun b63 =>
 (if b63 = true then some t27_25 else some LV.undef).bind fun t60_63 =>
 (pr.guard t58_61 true).bind fun b64 =>
 (if b64 = true then pr.slc 0 t60_63 (some (LV.int .i64 12)) none else some LV.undef).bind fun t61_64 =>
 (pr.guard t58_61 true).bind fun b65 =>
 (if b65 = true then some a0 else some LV.undef).bind fun t62_65 =>
 (pr.guard t58_61 true).bind fun b66 =>
 (if b66 = true then some t27_25 else some LV.undef).bind fun t63_66 =>
 (pr.guard t58_61 true).bind fun b67 =>
 (if b67 = true then pr.len true t63_66 else some LV.undef).bind fun t64_67 =>
 (pr.guard t58_61 true).bind fun b68 =>
 (if b68 = true then pr.slc 0 t62_65 (some (LV.int .i64 12)) (some t64_67) else some LV.undef).bind fun t65_68 =>
 (pr.guard t58_61 true).bind fun b69 =>
 (if b69 = true then pr.bin .eql t61_64 t65_68 else some LV.undef).bind fun t66_69 =>
 (pr.pick t58_61 t66_69 (LV.bool false)).bind fun t67_70 =>
 pr.fin none u35.2 [t67_70])))
theorem F_interpreterlaw03_Ip4Again_eq (g : Call) (a0 : LV) : fnEv g c_interpreterlaw03_Ip4Again [a0] none = F_interpreterlaw03_Ip4Again g a0 := by kernel_rfl

/-- interpreter/interpreterlaw03.Ip4Fields -/
noncomputable def F_interpreterlaw03_Ip4Fields (g : Call) (a0 : LV) (a1 : LV) : Option (LV × Option LV) :=
 (pr.box a0).bind fun t2_0 =>
 (pr.call g id_interpreterlaw03_awake noSlots []).bind fun t13_2 =>
 (pr.un .not t13_2).bind fun t14_3 =>
 condK t14_3 (
 pr.fin none noSlots [(LV.bool false)]) (
 (pr.fieldAddr 10 16 t2_0).bind fun t15_5 =>
 (pr.load 1 false noSlots t15_5).bind fun t16_6 =>
 (pr.len true t16_6).bind fun t17_7 =>
 (pr.bin .gtr t17_7 (LV.int .i64 70000)).bind fun t18_8 =>
 (pr.guard t18_8 false).bind fun b10 =>
 (if b10 = true then pr.fieldAddr 9 15 t2_0 else some LV.undef).bind fun t20_10 =>
 (pr.guard t18_8 false).bind fun b11 =>
 (if b11 = true then pr.load 1 false noSlots t20_10 else some LV.undef).bind fun t21_11 =>
 (pr.guard t18_8 false).bind fun b12 =>
 (if b12 = true then pr.len true t21_11 else some LV.undef).bind fun t22_12 =>
 (pr.guard t18_8 false).bind fun b13 =>
 (if b13 = true then pr.bin .gtr t22_12 (LV.int .i64 1000) else some LV.undef).bind fun t23_13 =>
 (pr.pick t18_8 (LV.bool true) t23_13).bind fun t24_14 =>
 condK t24_14 (
 pr.fin none noSlots [(LV.bool true)]) (
 (pr.load 17 true noSlots t2_0).bind fun t26_16 =>
 (pr.call g id_ip4_Bytes noSlots [t26_16]).bind fun t27_17 =>
 (pr.extract t27_17 0).bind fun t28_19 =>
 (pr.extract t27_17 1).bind fun t29_20 =>
 (pr.load 17 true noSlots t2_0).bind fun t30_23 =>
 (pr.alloc (LV.agg [(LV.int .i64 0), (LV.int .i64 0), (LV.int .i64 0), (LV.int .i64 0), (LV.int .i64 0), (LV.bool false), (LV.bool false), (LV.bytes [0, 0, 0, 0]), (LV.bytes [0, 0, 0, 0]), (LV.str []), (LV.str [])]) 7 noSlots).bind fun t7_24 =>
 (pr.store 17 true t7_24.2 t7_24.1 t30_23).bind fun u25 =>
 (pr.conv .i64 a1).bind fun t32_27 =>
 (pr.fieldAddr 2 2 t7_24.1).bind fun t33_28 =>
 (pr.store 1 false u25.2 t33_28 t32_27).bind fun u29 =>
 (pr.load 17 true u29.2 t7_24.1).bind fun t35_30 =>
 (pr.call g id_ip4_Bytes u29.2 [t35_30]).bind fun t36_31 =>
 (pr.extract t36_31 0).bind fun t37_33 =>
 (pr.extract t36_31 1).bind fun t38_34 =>
 (pr.load 17 true u29.2 t2_0).bind fun t39_37 =>
 (pr.alloc (LV.agg [(LV.int .i64 0), (LV.int .i64 0), (LV.int .i64 0), (LV.int .i64 0), (LV.int .i64 0), (LV.bool false), (LV.bool false), (LV.bytes [0, 0, 0, 0]), (LV.bytes [0, 0, 0, 0]), (LV.str []), (LV.str [])]) 10 u29.2).bind fun t10_38 =>
 (pr.store 17 true t10_38.2 t10_38.1 t39_37).bind fun u39 =>
 (pr.fieldAddr 8 11 t2_0).bind fun t40_40 =>
 (pr.load 4 true u39.2 t40_40).bind fun t41_41 =>
 (pr.fieldAddr 7 7 t2_0).bind fun t42_42 =>
 (pr.load 4 true u39.2 t42_42).bind fun t43_43 =>
 (pr.fieldAddr 7 7 t10_38.1).bind fun t44_44 =>
 (pr.store 4 true u39.2 t44_44 t41_41).bind fun u45 =>
 (pr.fieldAddr 8 11 t10_38.1).bind fun t45_46 =>
 (pr.store 4 true u45.2 t45_46 t43_43).bind fun u47 =>
 if noMeet t42_42 t44_44 = true then ((pr.load 17 true u47.2 t10_38.1).bind fun t47_48 =>
 (pr.call g id_ip4_Bytes u47.2 [t47_48]).bind fun t48_49 =>
 (pr.extract t48_49 0).bind fun t49_51 =>
 (pr.extract t48_49 1).bind fun t50_52 =>
 (pr.eqNil 1 true t29_20).bind fun t52_56 =>
 (pr.guard t52_56 false).bind fun b58 =>
 (if b58 = true then some t38_34 else some LV.undef).bind fun t54_58 =>
 (pr.guard t52_56 false).bind fun b59 =>
 (if b59 = true then pr.eqNil 1 true t54_58 else some LV.undef).bind fun t55_59 =>
 (pr.pick t52_56 (LV.bool true) t55_59).bind fun t56_60 =>
 (pr.guard t56_60 false).bind fun b62 =>
 (if b62 = true then some t50_52 else some LV.undef).bind fun t58_62 =>
 (pr.guard t56_60 false).bind fun b63 =>
 (if b63 = true then pr.eqNil 1 true t58_62 else some LV.undef).bind fun t59_63 =>
 (pr.pick t56_60 (LV.bool true) t59_63).bind fun t60_64 =>
 condK t60_64 (
 (pr.eqNil 1 false t29_20).bind fun t62_66 =>
 (pr.eqNil 1 false t50_52).bind fun t64_68 =>
 (pr.eqB false t62_66 t64_68).bind fun t65_69 =>
 (pr.guard t65_69 true).bind fun b71 =>
 (if b71 = true then some t29_20 else some LV.undef).bind fun t67_71 =>
 (pr.guard t65_69 true).bind fun b72 =>
 (if b72 = true then pr.eqNil 1 true t67_71 else some LV.undef).bind fun t68_72 =>
 (pr.guard t65_69 true).bind fun b73 =>
 (if b73 = true then some t68_72 else some LV.undef).bind fun t69_73 =>
 (pr.guard t69_73 false).bind fun b74 =>
 (if b74 = true then some t38_34 else some LV.undef).bind fun t70_74 =>
 (pr.guard t69_73 false).bind fun b75 =>
 (if b75 = true then pr.eqNil 1 false t70_74 else some LV.undef).bind fun t71_75 =>
 (pr.guard t65_69 true).bind fun b76 =>
 (if b76 = true then pr.pick t69_73 (LV.bool true) t71_75 else some LV.undef).bind fun t72_76 =>
 (pr.pick t65_69 t72_76 (LV.bool false)).bind fun t73_77 =>
 pr.fin none u47.2 [t73_77]) (
 (pr.len true t28_19).bind fun t75_80 =>
 (pr.bin .lss t75_80 (LV.int .i64 20)).bind fun t76_81 =>
 (pr.guard t76_81 false).bind fun b83 =>
 (if b83 = true then some t28_19 else some LV.undef).bind fun t78_83 =>
 (pr.guard t76_81 false).bind fun b84 =>
 (if b84 = true then pr.len true t78_83 else some LV.undef).bind fun t79_84 =>
 (pr.guard t76_81 false).bind fun b85 =>
 (if b85 = true then some t37_33 else some LV.undef).bind fun t80_85 =>
 (pr.guard t76_81 false).bind fun b86 =>
 (if b86 = true then pr.len true t80_85 else some LV.undef).bind fun t81_86 =>
 (pr.guard t76_81 false).bind fun b87 =>
 (if b87 = true then pr.bin .neq t79_84 t81_86 else some LV.undef).bind fun t82_87 =>
 (pr.pick t76_81 (LV.bool true) t82_87).bind fun t83_88 =>
 (pr.guard t83_88 false).bind fun b90 =>
 (if b90 = true then some t28_19 else some LV.undef).bind fun t85_90 =>
 (pr.guard t83_88 false).bind fun b91 =>
 (if b91 = true then pr.len true t85_90 else some LV.undef).bind fun t86_91 =>
 (pr.guard t83_88 false).bind fun b92 =>
 (if b92 = true then some t49_51 else some LV.undef).bind fun t87_92 =>
 (pr.guard t83_88 false).bind fun b93 =>
 (if b93 = true then pr.len true t87_92 else some LV.undef).bind fun t88_93 =>
 (pr.guard t83_88 false).bind fun b94 =>
 (if b94 = true then pr.bin .neq t86_91 t88_93 else some LV.undef).bind fun t89_94 =>
 (pr.pick t83_88 (LV.bool true) t89_94).bind fun t90_95 =>
 condK t90_95 (
 pr.fin none u47.2 [(LV.bool false)]) (
 (pr.slc 0 t28_19 none (some (LV.int .i64 8))).bind fun t92_98 =>
 (pr.slc 0 t37_33 none (some (LV.int .i64 8))).bind fun t94_100 =>
 (pr.bin .eql t92_98 t94_100).bind fun t95_101 =>
 (pr.guard t95_101 true).bind fun b103 =>
 (if b103 = true then some t28_19 else some LV.undef).bind fun t97_103 =>
 (pr.guard t95_101 true).bind fun b104 =>
 (if b104 = true then pr.idxStr t97_103 (LV.int .i64 9) else some LV.undef).bind fun t98_104 =>
 (pr.guard t95_101 true).bind fun b105 =>
 (if b105 = true then some t37_33 else some LV.undef).bind fun t99_105 =>
 (pr.guard t95_101 true).bind fun b106 =>
 (if b106 = true then pr.idxStr t99_105 (LV.int .i64 9) else some LV.undef).bind fun t100_106 =>
 (pr.guard t95_101 true).bind fun b107 =>
 (if b107 = true then pr.bin .eql t98_104 t100_106 else some LV.undef).bind fun t101_107 =>
 (pr.pick t95_101 t101_107 (LV.bool false)).bind fun t102_108 =>
 (pr.guard t102_108 true).bind fun b110 =>
 (if b110 = true then some t28_19 else some LV.undef).bind fun t104_110 =>
 (pr.guard t102_108 true).bind fun b111 =>
 (if b111 = true then pr.slc 0 t104_110 (some (LV.int .i64 12)) none else some LV.undef).bind fun t105_111 =>
 (pr.guard t102_108 true).bind fun b112 =>
 (if b112 = true then some t37_33 else some LV.undef).bind fun t106_112 =>
 (pr.guard t102_108 true).bind fun b113 =>
 (if b113 = true then pr.slc 0 t106_112 (some (LV.int .i64 12)) none else some LV.undef).bind fun t107_113 =>
 (pr.guard t102_108 true).bind fun b114 =>
 (if b114 = true then pr.bin .eql t105_111 t107_113 else some LV.undef).bind fun t108_114 =>
 (pr.pick t102_108 t108_114 (LV.bool false)).bind fun t109_115 =>
 (pr.guard t109_115 true).bind fun b117 =>
 (if b117 = true then some t37_33 else some LV.undef).bind fun t111_117 =>
 (pr.guard t109_115 true).bind fun b118 =>
 (if b118 = true then pr.idxStr t111_117 (LV.int .i64 8) else some LV.undef).bind fun t112_118 =>
 (pr.guard t109_115 true).bind fun b119 =>
 (if b119 = true then some a1 else some LV.undef).bind fun t113_119 =>
 (pr.guard t109_115 true).bind fun b120 =>
 (if b120 = true then pr.bin .eql t112_118 t113_119 else some LV.undef).bind fun t114_120 =>
 (pr.pick t109_115 t114_120 (LV.bool false)).bind fun t115_121 =>
 (pr.guard t115_121 true).bind fun b123 =>
 (if b123 = true then some t28_19 else some LV.undef).bind fun t117_123 =>
 (pr.guard t115_121 true).bind fun b124 =>
 (if b124 = true then pr.slc 0 t117_123 none (some (LV.int .i64 12)) else some LV.undef).bind fun t118_124 =>
 (pr.guard t115_121 true).bind fun b125 =>
 (if b125 = true then some t49_51 else some LV.undef).bind fun t119_125 =>
 (pr.guard t115_121 true).bind fun b126 =>
 (if b126 = true then pr.slc 0 t119_125 none (some (LV.int .i64 12)) else some LV.undef).bind fun t120_126 =>
 (pr.guard t115_121 true).bind fun b127 =>
 (if b127 = true then pr.bin .eql t118_124 t120_126 else some LV.undef).bind fun t121_127 =>
 (pr.pick t115_121 t121_127 (LV.bool false)).bind fun t122_128 =>
 (pr.guard t122_128 true).bind fun b130 =>
 (if b130 = true then some t28_19 else some LV.undef).bind fun t124_130 =>
 (pr.guard t122_128 true).bind fun b131 =>
 (if b131 = true then pr.slc 0 t124_130 (some (LV.int .i64 12)) (some (LV.int .i64 16)) else some LV.undef).bind fun t125_131 =>
 (pr.guard t122_128 true).bind fun b132 =>
 (if b132 = true then some t49_51 else some LV.undef).bind fun t126_132 =>
 (pr.guard t122_128 true).bind fun b133 =>
 (if b133 = true then pr.slc 0 t126_132 (some (LV.int .i64 16)) (some (LV.int .i64 20)) else some LV.undef).bind fun t127_133 =>
 (pr.guard t122_128 true).bind fun b134 =>
 (if b134 = true then pr.bin .eql t125_131 t127_133 else some LV.undef).bind fun t128_134 =>
 (pr.pick t122_128 t128_134 (LV.bool false)).bind fun t129_135 =>
 (pr.guard t129_135 true).bind fun b137 =>
 (if b137 = true then some t28_19 else some LV.undef).bind fun t131_137 =>
 (pr.guard t129_135 true).bind fun b138 =>
 (if b138 = true then pr.slc 0 t131_137 (some (LV.int .i64 16)) (some (LV.int .i64 20)) else some LV.undef).bind fun t132_138 =>
 (pr.guard t129_135 true).bind fun b139 =>
 (if b139 = true then some t49_51 else some LV.undef).bind fun t133_139 =>
 (pr.guard t129_135 true).bind fun b140 =>
 (if b140 = true then pr.slc 0 t133_139 (some (LV.int .i64 12)) (some (LV.int .i64 16)) else some LV.undef).bind fun t134_140 =>
 (pr.guard t129_135 true).bind fun b141 =>
 (if b141 = true then pr.bin .eql t132_138 t134_140 else some LV.undef).bind fun t135_141 =>
 (pr.pick t129_135 t135_141 (LV.bool false)).bind fun t136_142 =>
 (pr.guard t136_142 true).bind fun b144 =>
 (if b144 = true then some t28_19 else some LV.undef).bind fun t138_144 =>
 (pr.guard t136_142 true).bind fun b145 =>
 (if b145 = true then pr.slc 0 t138_144 (some (LV.int .i64 20)) none else some LV.undef).bind fun t139_145 =>
 (pr.guard t136_142 true).bind fun b146 =>
 (if b146 = true then some t49_51 else some LV.undef).bind fun t140_146 =>
 (pr.guard t136_142 true).bind fun b147 =>
 (if b147 = true then pr.slc 0 t140_146 (some (LV.int .i64 20)) none else some LV.undef).bind fun t141_147 =>
 (pr.guard t136_142 true).bind fun b148 =>
 (if b148 = true then pr.bin .eql t139_145 t141_147 else some LV.undef).bind fun t142_148 =>
 (pr.pick t136_142 t142_148 (LV.bool false)).bind fun t143_149 =>
 pr.fin none u47.2 [t143_149]))) else none))
theorem F_interpreterlaw03_Ip4Fields_eq (g : Call) (a0 : LV) (a1 : LV) : fnEv g c_interpreterlaw03_Ip4Fields [a0, a1] none = F_interpreterlaw03_Ip4Fields g a0 a1 := by kernel_rfl

/-- interpreter/interpreterlaw03.Ip4Cut -/
noncomputable def F_interpreterlaw03_Ip4Cut (g : Call) (a0 : LV) (a1 : LV) (a2 : LV) : Option (LV × Option LV) :=
 (pr.box a0).bind fun t3_0 =>
 (pr.call g id_interpreterlaw03_awake noSlots []).bind fun t14_2 =>
 (pr.un .not t14_2).bind fun t15_3 =>
 condK t15_3 (
 pr.fin none noSlots [(LV.bool false)]) (
 (pr.fieldAddr 10 16 t3_0).bind fun t16_5 =>
 (pr.load 1 false noSlots t16_5).bind fun t17_6 =>
 (pr.len true t17_6).bind fun t18_7 =>
 (pr.bin .gtr t18_7 (LV.int .i64 70000)).bind fun t19_8 =>
 (pr.guard t19_8 false).bind fun b10 =>
 (if b10 = true then pr.fieldAddr 9 15 t3_0 else some LV.undef).bind fun t21_10 =>
 (pr.guard t19_8 false).bind fun b11 =>
 (if b11 = true then pr.load 1 false noSlots t21_10 else some LV.undef).bind fun t22_11 =>
 (pr.guard t19_8 false).bind fun b12 =>
 (if b12 = true then pr.len true t22_11 else some LV.undef).bind fun t23_12 =>
 (pr.guard t19_8 false).bind fun b13 =>
 (if b13 = true then pr.bin .gtr t23_12 (LV.int .i64 1000) else some LV.undef).bind fun t24_13 =>
 (pr.pick t19_8 (LV.bool true) t24_13).bind fun t25_14 =>
 condK t25_14 (
 pr.fin none noSlots [(LV.bool true)]) (
 (pr.load 17 true noSlots t3_0).bind fun t27_16 =>
 (pr.call g id_ip4_Bytes noSlots [t27_16]).bind fun t28_17 =>
 (pr.extract t28_17 0).bind fun t29_19 =>
 (pr.extract t28_17 1).bind fun t30_20 =>
 (pr.eqNil 1 true t30_20).bind fun t32_24 =>
 (pr.guard t32_24 false).bind fun b26 =>
 (if b26 = true then some t29_19 else some LV.undef).bind fun t34_26 =>
 (pr.guard t32_24 false).bind fun b27 =>
 (if b27 = true then pr.len true t34_26 else some LV.undef).bind fun t35_27 =>
 (pr.guard t32_24 false).bind fun b28 =>
 (if b28 = true then pr.bin .eql t35_27 (LV.int .i64 0) else some LV.undef).bind fun t36_28 =>
 (pr.pick t32_24 (LV.bool true) t36_28).bind fun t37_29 =>
 condK t37_29 (
 (pr.eqNil 1 true t30_20).bind fun t39_31 =>
 pr.fin none noSlots [t39_31]) (
 (pr.conv .i64 a1).bind fun t43_35 =>
 (pr.len true t29_19).bind fun t45_37 =>
 (pr.bin .rem t43_35 t45_37).bind fun t46_38 =>
 (pr.slc 0 t29_19 none (some t46_38)).bind fun t47_39 =>
 (pr.call g id_ip4_Parse noSlots [t47_39]).bind fun t48_40 =>
 (pr.extract t48_40 0).bind fun t49_42 =>
 (pr.extract t48_40 1).bind fun t50_43 =>
 (pr.alloc (LV.agg [(LV.int .i64 0), (LV.int .i64 0), (LV.int .i64 0), (LV.int .i64 0), (LV.int .i64 0), (LV.bool false), (LV.bool false), (LV.bytes [0, 0, 0, 0]), (LV.bytes [0, 0, 0, 0]), (LV.str []), (LV.str [])]) 9 noSlots).bind fun t9_44 =>
 (pr.store 17 true t9_44.2 t9_44.1 t49_42).bind fun u45 =>
 (pr.load 17 true u45.2 t3_0).bind fun t51_47 =>
 (pr.alloc (LV.agg [(LV.int .i64 0), (LV.int .i64 0), (LV.int .i64 0), (LV.int .i64 0), (LV.int .i64 0), (LV.bool false), (LV.bool false), (LV.bytes [0, 0, 0, 0]), (LV.bytes [0, 0, 0, 0]), (LV.str []), (LV.str [])]) 11 u45.2).bind fun t11_48 =>
 (pr.store 17 true t11_48.2 t11_48.1 t51_47).bind fun u49 =>
 (pr.fieldAddr 6 6 t11_48.1).bind fun t52_50 =>
 (pr.store 1 false u49.2 t52_50 (LV.bool false)).bind fun u51 =>
 (pr.fieldAddr 10 16 t3_0).bind fun t53_52 =>
 (pr.load 1 false u51.2 t53_52).bind fun t54_53 =>
 (pr.bsl (LV.int .u8 0) 1 [(0, a2)]).bind fun t56_55 =>
 (pr.b2s u51.2 t56_55).bind fun t57_56 =>
 (pr.bin .add t54_53 t57_56).bind fun t58_57 =>
 (pr.fieldAddr 10 16 t11_48.1).bind fun t59_58 =>
 (pr.store 1 false u51.2 t59_58 t58_57).bind fun u59 =>
 (pr.load 17 true u59.2 t11_48.1).bind fun t61_60 =>
 (pr.call g id_ip4_Bytes u59.2 [t61_60]).bind fun t62_61 =>
 (pr.extract t62_61 0).bind fun t63_63 =>
 (pr.extract t62_61 1).bind fun t64_64 =>
 (pr.eqNil 1 true t50_43).bind fun t66_68 =>
 (pr.guard t66_68 true).bind fun b70 =>
 (if b70 = true then some t64_64 else some LV.undef).bind fun t68_70 =>
 (pr.guard t66_68 true).bind fun b71 =>
 (if b71 = true then pr.eqNil 1 true t68_70 else some LV.undef).bind fun t69_71 =>
 (pr.guard t66_68 true).bind fun b72 =>
 (if b72 = true then some t69_71 else some LV.undef).bind fun t70_72 =>
 (pr.guard t70_72 true).bind fun b73 =>
 (if b73 = true then some t29_19 else some LV.undef).bind fun t71_73 =>
 (pr.guard t70_72 true).bind fun b74 =>
 (if b74 = true then pr.len true t71_73 else some LV.undef).bind fun t72_74 =>
 (pr.guard t70_72 true).bind fun b75 =>
 (if b75 = true then pr.fieldAddr 4 4 t3_0 else some LV.undef).bind fun t73_75 =>
 (pr.guard t70_72 true).bind fun b76 =>
 (if b76 = true then pr.load 1 false u59.2 t73_75 else some LV.undef).bind fun t74_76 =>
 (pr.guard t70_72 true).bind fun b77 =>
 (if b77 = true then pr.bin .add t72_74 t74_76 else some LV.undef).bind fun t75_77 =>
 (pr.guard t70_72 true).bind fun b78 =>
 (if b78 = true then pr.bin .add t75_77 (LV.int .i64 1) else some LV.undef).bind fun t76_78 =>
 (pr.guard t70_72 true).bind fun b79 =>
 (if b79 = true then pr.bin .gtr t76_78 (LV.int .i64 65535) else some LV.undef).bind fun t77_79 =>
 (pr.guard t66_68 true).bind fun b80 =>
 (if b80 = true then pr.pick t70_72 t77_79 (LV.bool false) else some LV.undef).bind fun t78_80 =>
 (pr.guard t66_68 true).bind fun b81 =>
 (if b81 = true then some t78_80 else some LV.undef).bind fun t79_81 =>
 (pr.guard t79_81 false).bind fun b82 =>
 (if b82 = true then some t64_64 else some LV.undef).bind fun t80_82 =>
 (pr.guard t79_81 false).bind fun b83 =>
 (if b83 = true then pr.eqNil 1 false t80_82 else some LV.undef).bind fun t81_83 =>
 (pr.guard t79_81 false).bind fun b84 =>
 (if b84 = true then some t81_83 else some LV.undef).bind fun t82_84 =>
 (pr.guard t82_84 true).bind fun b85 =>
 (if b85 = true then some t63_63 else some LV.undef).bind fun t83_85 =>
 (pr.guard t82_84 true).bind fun b86 =>
 (if b86 = true then pr.len true t83_85 else some LV.undef).bind fun t84_86 =>
 (pr.guard t82_84 true).bind fun b87 =>
 (if b87 = true then some t29_19 else some LV.undef).bind fun t85_87 =>
 (pr.guard t82_84 true).bind fun b88 =>
 (if b88 = true then pr.len true t85_87 else some LV.undef).bind fun t86_88 =>
 (pr.guard t82_84 true).bind fun b89 =>
 (if b89 = true then pr.bin .add t86_88 (LV.int .i64 1) else some LV.undef).bind fun t87_89 =>
 (pr.guard t82_84 true).bind fun b90 =>
 (if b90 = true then pr.bin .eql t84_86 t87_89 else some LV.undef).bind fun t88_90 =>
 (pr.guard t79_81 false).bind fun b91 =>
 (if b91 = true then pr.pick t82_84 t88_90 (LV.bool false) else some LV.undef).bind fun t89_91 =>
 (pr.guard t79_81 false).bind fun b92 =>
 (if b92 = true then some t89_91 else some LV.undef).bind fun t90_92 =>
 (pr.guard t90_92 true).bind fun b93 =>
 (if b93 = true then some t63_63 else some LV.undef).bind fun t91_93 =>
 (pr.guard t90_92 true).bind fun b94 =>
 (if b94 = true then some t63_63 else some LV.undef).bind fun t92_94 =>
 (pr.guard t90_92 true).bind fun b95 =>
 (if b95 = true then pr.len true t92_94 else some LV.undef).bind fun t93_95 =>
 (pr.guard t90_92 true).bind fun b96 =>
 (if b96 = true then pr.bin .sub t93_95 (LV.int .i64 1) else some LV.undef).bind fun t94_96 =>
 (pr.guard t90_92 true).bind fun b97 =>
 (if b97 = true then pr.idxStr t91_93 t94_96 else some LV.undef).bind fun t95_97 =>
 (pr.guard t90_92 true).bind fun b98 =>
 (if b98 = true then some a2 else some LV.undef).bind fun t96_98 =>
 (pr.guard t90_92 true).bind fun b99 =>
 (if b99 = true then pr.bin .eql t95_97 t96_98 else some LV.undef).bind fun t97_99 =>
 (pr.guard t79_81 false).bind fun b100 =>
 (if b100 = true then pr.pick t90_92 t97_99 (LV.bool false) else some LV.undef).bind fun t98_100 =>
 (pr.guard t66_68 true).bind fun b101 =>
 (if b101 = true then pr.pick t79_81 (LV.bool true) t98_100 else some LV.undef).bind fun t99_101 =>
 (pr.pick t66_68 t99_101 (LV.bool false)).bind fun t100_102 =>
 pr.fin none u59.2 [t100_102])))
theorem F_interpreterlaw03_Ip4Cut_eq (g : Call) (a0 : LV) (a1 : LV) (a2 : LV) : fnEv g c_interpreterlaw03_Ip4Cut [a0, a1, a2] none = F_interpreterlaw03_Ip4Cut g a0 a1 a2 := by kernel_rfl

/-- interpreter/interpreterlaw03.Ip4Routes -/
noncomputable def F_interpreterlaw03_Ip4Routes (g : Call) (a0 : LV) : Option (LV × Option LV) :=
 (pr.call g id_interpreterlaw03_awake noSlots []).bind fun t7_1 =>
 (pr.un .not t7_1).bind fun t8_2 =>
 condK t8_2 (
 pr.fin none noSlots [(LV.bool false)]) (
 (pr.len true a0).bind fun t10_5 =>
 (pr.bin .gtr t10_5 (LV.int .i64 3000)).bind fun t11_6 =>
 condK t11_6 (
 pr.fin none noSlots [(LV.bool true)]) (
 (pr.call g id_ip4_Routed noSlots [a0]).bind fun t14_9 =>
 (pr.extract t14_9 0).bind fun t15_11 =>
 (pr.extract t14_9 1).bind fun t16_12 =>
 (pr.call g id_interpreterref03_Routed noSlots [a0]).bind fun t19_16 =>
 (pr.extract t19_16 0).bind fun t20_18 =>
 (pr.extract t19_16 1).bind fun t21_19 =>
 (pr.eqB false t15_11 t20_18).bind fun t24_24 =>
 (pr.guard t24_24 true).bind fun b26 =>
 (if b26 = true then some t16_12 else some LV.undef).bind fun t26_26 =>
 (pr.guard t24_24 true).bind fun b27 =>
 (if b27 = true then some t21_19 else some LV.undef).bind fun t27_27 =>
 (pr.guard t24_24 true).bind fun b28 =>
 (if b28 = true then pr.call g id_interpreterlaw03_same noSlots [t26_26, t27_27] else some LV.undef).bind fun t28_28 =>
 (pr.pick t24_24 t28_28 (LV.bool false)).bind fun t29_29 =>
 pr.fin none noSlots [t29_29]))
theorem F_interpreterlaw03_Ip4Routes_eq (g : Call) (a0 : LV) : fnEv g c_interpreterlaw03_Ip4Routes [a0] none = F_interpreterlaw03_Ip4Routes g a0 := by kernel_rfl

/-- interpreter/interpreterlaw03.Ip4Used -/
noncomputable def F_interpreterlaw03_Ip4Used (g : Call) (a0 : LV) (a1 : LV) (a2 : LV) : Option (LV × Option LV) :=
 (pr.call g id_interpreterlaw03_awake noSlots []).bind fun t15_1 =>
 (pr.un .not t15_1).bind fun t16_2 =>
 condK t16_2 (
 pr.fin none noSlots [(LV.bool false)]) (
 (pr.len true a0).bind fun t18_5 =>
 (pr.bin .gtr t18_5 (LV.int .i64 200)).bind fun t19_6 =>
 condK t19_6 (
 pr.fin none noSlots [(LV.bool true)]) (
 (whileW (fun q10 : List LV × Slots =>
 (pr.conv .i64 a1).bind fun t22_13 =>
 (pr.bin .lss (getL q10.1 1) t22_13).bind fun t23_14 =>
 condK t23_14 (
 (pr.bin .add (getL q10.1 0) (LV.str [1])).bind fun t27_16 =>
 (pr.bin .add (getL q10.1 1) (LV.int .i64 1)).bind fun t25_19 =>
 pr.round noSlots .normal [t27_16, t25_19] q10.2) (
 pr.round noSlots (.exit 0) [(getL q10.1 0), (getL q10.1 1)] q10.2)) ([(LV.str []), (LV.int .i64 0)], noSlots)).bind fun r10 =>
 exIf r10.1 (.exit 0) (
 (pr.bin .add (getL r10.2.1 0) (LV.str [137, 7])).bind fun t30_22 =>
 (pr.bsl (LV.int .u8 0) 1 [(0, a2)]).bind fun t32_24 =>
 (pr.b2s r10.2.2 t32_24).bind fun t33_25 =>
 (pr.bin .add t30_22 t33_25).bind fun t34_26 =>
 (pr.bin .add t34_26 (LV.str [97, 98, 99, 100])).bind fun t35_27 =>
 (pr.call g id_ip4_Routed r10.2.2 [t35_27]).bind fun t36_28 =>
 (pr.extract t36_28 0).bind fun t37_30 =>
 (pr.extract t36_28 1).bind fun t38_31 =>
 (pr.bin .add (getL r10.2.1 0) (LV.str [0])).bind fun t41_35 =>
 (pr.bin .add t41_35 a0).bind fun t43_37 =>
 (pr.call g id_ip4_Routed r10.2.2 [t43_37]).bind fun t44_38 =>
 (pr.extract t44_38 0).bind fun t45_40 =>
 (pr.extract t44_38 1).bind fun t46_41 =>
 (pr.call g id_ip4_Routed r10.2.2 [(getL r10.2.1 0)]).bind fun t49_45 =>
 (pr.extract t49_45 0).bind fun t50_47 =>
 (pr.extract t49_45 1).bind fun t51_48 =>
 (pr.eqNil 1 false t38_31).bind fun t53_52 =>
 (pr.guard t53_52 true).bind fun b54 =>
 (if b54 = true then some t37_30 else some LV.undef).bind fun t55_54 =>
 (pr.guard t53_52 true).bind fun b55 =>
 (if b55 = true then some a2 else some LV.undef).bind fun t56_55 =>
 (pr.guard t53_52 true).bind fun b56 =>
 (if b56 = true then pr.bin .leq t56_55 (LV.int .u8 7) else some LV.undef).bind fun t57_56 =>
 (pr.guard t53_52 true).bind fun b57 =>
 (if b57 = true then pr.eqB false t55_54 t57_56 else some LV.undef).bind fun t58_57 =>
 (pr.pick t53_52 t58_57 (LV.bool false)).bind fun t59_58 =>
 (pr.guard t59_58 true).bind fun b60 =>
 (if b60 = true then some t46_41 else some LV.undef).bind fun t61_60 =>
 (pr.guard t59_58 true).bind fun b61 =>
 (if b61 = true then pr.eqNil 1 false t61_60 else some LV.undef).bind fun t62_61 =>
 (pr.pick t59_58 t62_61 (LV.bool false)).bind fun t63_62 =>
 (pr.guard t63_62 true).bind fun b64 =>
 (if b64 = true then some t45_40 else some LV.undef).bind fun t65_64 =>
 (pr.guard t63_62 true).bind fun b65 =>
 (if b65 = true then pr.un .not t65_64 else some LV.undef).bind fun t66_65 =>
 (pr.pick t63_62 t66_65 (LV.bool false)).bind fun t67_66 =>
 (pr.guard t67_66 true).bind fun b68 =>
 (if b68 = true then some t51_48 else some LV.undef).bind fun t69_68 =>
 (pr.guard t67_66 true).bind fun b69 =>
 (if b69 = true then pr.eqNil 1 false t69_68 else some LV.undef).bind fun t70_69 =>
 (pr.pick t67_66 t70_69 (LV.bool false)).bind fun t71_70 =>
 (pr.guard t71_70 true).bind fun b72 =>
 (if b72 = true then some t50_47 else some LV.undef).bind fun t73_72 =>
 (pr.guard t71_70 true).bind fun b73 =>
 (if b73 = true then pr.un .not t73_72 else some LV.undef).bind fun t74_73 =>
 (pr.pick t71_70 t74_73 (LV.bool false)).bind fun t75_74 =>
 pr.fin none r10.2.2 [t75_74]) (none)))
theorem F_interpreterlaw03_Ip4Used_eq (g : Call) (a0 : LV) (a1 : LV) (a2 : LV) : fnEv g c_interpreterlaw03_Ip4Used [a0, a1, a2] none = F_interpreterlaw03_Ip4Used g a0 a1 a2 := by kernel_rfl

/-- interpreter/interpreterlaw03.Ip4Known -/
noncomputable def F_interpreterlaw03_Ip4Known (g : Call) : Option (LV × Option LV) :=
 (pr.call g id_interpreterlaw03_example noSlots []).bind fun t20_1 =>
 (pr.call g id_ip4_Bytes noSlots [t20_1]).bind fun t21_2 =>
 (pr.extract t21_2 0).bind fun t22_4 =>
 (pr.extract t21_2 1).bind fun t23_5 =>
 (pr.len true t22_4).bind fun t25_9 =>
 (pr.bin .neq t25_9 (LV.int .i64 22)).bind fun t26_10 =>
 condK t26_10 (
 pr.fin none noSlots [(LV.bool false)]) (
 (pr.slc 0 t22_4 none (some (LV.int .i64 19))).bind fun t29_13 =>
 (pr.call g id_ip4_Parse noSlots [t29_13]).bind fun t30_14 =>
 (pr.extract t30_14 0).bind fun t31_16 =>
 (pr.extract t30_14 1).bind fun t32_17 =>
 (pr.alloc (LV.agg [(LV.int .i64 0), (LV.int .i64 0), (LV.int .i64 0), (LV.int .i64 0), (LV.int .i64 0), (LV.bool false), (LV.bool false), (LV.bytes [0, 0, 0, 0]), (LV.bytes [0, 0, 0, 0]), (LV.str []), (LV.str [])]) 3 noSlots).bind fun t3_18 =>
 (pr.store 17 true t3_18.2 t3_18.1 t31_16).bind fun u19 =>
 (pr.slc 0 t22_4 none (some (LV.int .i64 21))).bind fun t35_22 =>
 (pr.call g id_ip4_Parse u19.2 [t35_22]).bind fun t36_23 =>
 (pr.extract t36_23 0).bind fun t37_25 =>
 (pr.extract t36_23 1).bind fun t38_26 =>
 (pr.alloc (LV.agg [(LV.int .i64 0), (LV.int .i64 0), (LV.int .i64 0), (LV.int .i64 0), (LV.int .i64 0), (LV.bool false), (LV.bool false), (LV.bytes [0, 0, 0, 0]), (LV.bytes [0, 0, 0, 0]), (LV.str []), (LV.str [])]) 5 u19.2).bind fun t5_27 =>
 (pr.store 17 true t5_27.2 t5_27.1 t37_25).bind fun u28 =>
 (pr.parts (LV.agg [(LV.int .i64 0), (LV.int .i64 0), (LV.int .i64 0), (LV.int .i64 0), (LV.int .i64 0), (LV.bool false), (LV.bool false), (LV.bytes [0, 0, 0, 0]), (LV.bytes [0, 0, 0, 0]), (LV.str []), (LV.str [])]) [(4, (LV.int .i64 4))]).bind fun t40_30 =>
 (pr.call g id_ip4_Bytes u28.2 [t40_30]).bind fun t41_31 =>
 (pr.extract t41_31 0).bind fun t42_33 =>
 (pr.extract t41_31 1).bind fun t43_34 =>
 (pr.call g id_strings_Repeat u28.2 [(LV.str [120]), (LV.int .i64 65516)]).bind fun t45_37 =>
 (pr.parts (LV.agg [(LV.int .i64 0), (LV.int .i64 0), (LV.int .i64 0), (LV.int .i64 0), (LV.int .i64 0), (LV.bool false), (LV.bool false), (LV.bytes [0, 0, 0, 0]), (LV.bytes [0, 0, 0, 0]), (LV.str []), (LV.str [])]) [(10, t45_37)]).bind fun t46_38 =>
 (pr.call g id_ip4_Bytes u28.2 [t46_38]).bind fun t47_39 =>
 (pr.extract t47_39 0).bind fun t48_41 =>
 (pr.extract t47_39 1).bind fun t49_42 =>
 (pr.call g id_strings_Repeat u28.2 [(LV.str [120]), (LV.int .i64 65515)]).bind fun t51_45 =>
 (pr.parts (LV.agg [(LV.int .i64 0), (LV.int .i64 0), (LV.int .i64 0), (LV.int .i64 0), (LV.int .i64 0), (LV.bool false), (LV.bool false), (LV.bytes [0, 0, 0, 0]), (LV.bytes [0, 0, 0, 0]), (LV.str []), (LV.str [])]) [(10, t51_45)]).bind fun t52_46 =>
 (pr.call g id_ip4_Bytes u28.2 [t52_46]).bind fun t53_47 =>
 (pr.extract t53_47 0).bind fun t54_49 =>
 (pr.extract t53_47 1).bind fun t55_50 =>
 (pr.call g id_ip4_Routed u28.2 [(LV.str [1, 131, 3, 4])]).bind fun t57_53 =>
 (pr.extract t57_53 0).bind fun t58_55 =>
 (pr.extract t57_53 1).bind fun t59_56 =>
 (pr.call g id_ip4_Routed u28.2 [(LV.str [131, 7, 4, 0, 0, 0, 0])]).bind fun t61_59 =>
 (pr.extract t61_59 0).bind fun t62_61 =>
 (pr.extract t61_59 1).bind fun t63_62 =>
 (pr.call g id_ip4_Routed u28.2 [(LV.str [7, 1])]).bind fun t65_65 =>
 (pr.extract t65_65 0).bind fun t66_67 =>
 (pr.extract t65_65 1).bind fun t67_68 =>
 (pr.call g id_interpreterlaw03_awake u28.2 []).bind fun t68_71 =>
 (pr.guard t68_71 true).bind fun b73 =>
 (if b73 = true then some t32_17 else some LV.undef).bind fun t70_73 =>
 (pr.guard t68_71 true).bind fun b74 =>
 (if b74 = true then pr.call g id_interpreterlaw03_same u28.2 [t70_73, (LV.int .i64 7)] else some LV.undef).bind fun t71_74 =>
 (pr.pick t68_71 t71_74 (LV.bool false)).bind fun t72_75 =>
 (pr.guard t72_75 true).bind fun b77 =>
 (if b77 = true then some t38_26 else some LV.undef).bind fun t74_77 =>
 (pr.guard t72_75 true).bind fun b78 =>
 (if b78 = true then pr.call g id_interpreterlaw03_same u28.2 [t74_77, (LV.int .i64 7)] else some LV.undef).bind fun t75_78 =>
 (pr.pick t72_75 t75_78 (LV.bool false)).bind fun t76_79 =>
 (pr.guard t76_79 true).bind fun b81 =>
 (if b81 = true then some t43_34 else some LV.undef).bind fun t78_81 =>
 (pr.guard t76_79 true).bind fun b82 =>
 (if b82 = true then pr.call g id_interpreterlaw03_same u28.2 [t78_81, (LV.int .i64 13)] else some LV.undef).bind fun t79_82 =>
 (pr.pick t76_79 t79_82 (LV.bool false)).bind fun t80_83 =>
 (pr.guard t80_83 true).bind fun b85 =>
 (if b85 = true then some t49_42 else some LV.undef).bind fun t82_85 =>
 (pr.guard t80_83 true).bind fun b86 =>
 (if b86 = true then pr.call g id_interpreterlaw03_same u28.2 [t82_85, (LV.int .i64 3)] else some LV.undef).bind fun t83_86 =>
 (pr.pick t80_83 t83_86 (LV.bool false)).bind fun t84_87 =>
 (pr.guard t84_87 true).bind fun b89 =>
 (if b89 = true then some t55_50 else some LV.undef).bind fun t86_89 =>
 (pr.guard t84_87 true).bind fun b90 =>
 (if b90 = true then pr.eqNil 1 false t86_89 else some LV.undef).bind fun t87_90 =>
 (pr.pick t84_87 t87_90 (LV.bool false)).bind fun t88_91 =>
 (pr.guard t88_91 true).bind fun b93 =>
 (if b93 = true then some t58_55 else some LV.undef).bind fun t90_93 =>
 (pr.guard t88_91 true).bind fun b94 =>
 (if b94 = true then pr.un .not t90_93 else some LV.undef).bind fun t91_94 =>
 (pr.pick t88_91 t91_94 (LV.bool false)).bind fun t92_95 =>
 (pr.guard t92_95 true).bind fun b97 =>
 (if b97 = true then some t59_56 else some LV.undef).bind fun t94_97 =>
 (pr.guard t92_95 true).bind fun b98 =>
 (if b98 = true then pr.eqNil 1 false t94_97 else some LV.undef).bind fun t95_98 =>
 (pr.pick t92_95 t95_98 (LV.bool false)).bind fun t96_99 =>
 (pr.guard t96_99 true).bind fun b101 =>
 (if b101 = true then some t62_61 else some LV.undef).bind fun t98_101 =>
 (pr.pick t96_99 t98_101 (LV.bool false)).bind fun t99_102 =>
 (pr.guard t99_102 true).bind fun b104 =>
 (if b104 = true then some t63_62 else some LV.undef).bind fun t101_104 =>
 (pr.guard t99_102 true).bind fun b105 =>
 (if b105 = true then pr.eqNil 1 false t101_104 else some LV.undef).bind fun t102_105 =>
 (pr.pick t99_102 t102_105 (LV.bool false)).bind fun t103_106 =>
 (pr.guard t103_106 true).bind fun b108 =>
 (if b108 = true then some t67_68 else some LV.undef).bind fun t105_108 =>
 (pr.guard t103_106 true).bind fun b109 =>
 (if b109 = true then pr.call g id_interpreterlaw03_same u28.2 [t105_108, (LV.int .i64 8)] else some LV.undef).bind fun t106_109 =>
 (pr.pick t103_106 t106_109 (LV.bool false)).bind fun t107_110 =>
 pr.fin none u28.2 [t107_110])
theorem F_interpreterlaw03_Ip4Known_eq (g : Call) : fnEv g c_interpreterlaw03_Ip4Known [] none = F_interpreterlaw03_Ip4Known g := by kernel_rfl

/-- interpreter/interpreterlaw03.awake -/
noncomputable def F_interpreterlaw03_awake (g : Call) : Option (LV × Option LV) :=
 (pr.call g id_interpreterlaw03_example noSlots []).bind fun t6_1 =>
 (pr.call g id_ip4_Bytes noSlots [t6_1]).bind fun t7_2 =>
 (pr.extract t7_2 0).bind fun t8_4 =>
 (pr.extract t7_2 1).bind fun t9_5 =>
 (pr.call g id_ip4_Parse noSlots [t8_4]).bind fun t12_9 =>
 (pr.extract t12_9 0).bind fun t13_11 =>
 (pr.extract t12_9 1).bind fun t14_12 =>
 (pr.alloc (LV.agg [(LV.int .i64 0), (LV.int .i64 0), (LV.int .i64 0), (LV.int .i64 0), (LV.int .i64 0), (LV.bool false), (LV.bool false), (LV.bytes [0, 0, 0, 0]), (LV.bytes [0, 0, 0, 0]), (LV.str []), (LV.str [])]) 3 noSlots).bind fun t3_13 =>
 (pr.store 17 true t3_13.2 t3_13.1 t13_11).bind fun u14 =>
 (pr.eqNil 1 false t9_5).bind fun t16_17 =>
 (pr.guard t16_17 true).bind fun b19 =>
 (if b19 = true then some t14_12 else some LV.undef).bind fun t18_19 =>
 (pr.guard t16_17 true).bind fun b20 =>
 (if b20 = true then pr.eqNil 1 false t18_19 else some LV.undef).bind fun t19_20 =>
 (pr.pick t16_17 t19_20 (LV.bool false)).bind fun t20_21 =>
 (pr.guard t20_21 true).bind fun b23 =>
 (if b23 = true then pr.load 17 true u14.2 t3_13.1 else some LV.undef).bind fun t22_23 =>
 (pr.guard t20_21 true).bind fun b24 =>
 (if b24 = true then pr.call g id_interpreterlaw03_example u14.2 [] else some LV.undef).bind fun t23_24 =>
 (pr.guard t20_21 true).bind fun b25 =>
 (if b25 = true then pr.eqS (Sh.agg [(Sh.int .i64), (Sh.int .i64), (Sh.int .i64), (Sh.int .i64), (Sh.int .i64), Sh.bool, Sh.bool, (Sh.bytes 4), (Sh.bytes 4), Sh.str, Sh.str]) false t22_23 t23_24 else some LV.undef).bind fun t24_25 =>
 (pr.pick t20_21 t24_25 (LV.bool false)).bind fun t25_26 =>
 (pr.guard t25_26 true).bind fun b28 =>
 (if b28 = true then some t8_4 else some LV.undef).bind fun t27_28 =>
 (pr.guard t25_26 true).bind fun b29 =>
 (if b29 = true then pr.bin .eql t27_28 (LV.str [69, 0, 0, 22, 0, 1, 0, 0, 64, 17, 102, 212, 10, 0, 0, 1, 10, 0, 0, 2, 104, 105]) else some LV.undef).bind fun t28_29 =>
 (pr.pick t25_26 t28_29 (LV.bool false)).bind fun t29_30 =>
 pr.fin none u14.2 [t29_30]
theorem F_interpreterlaw03_awake_eq (g : Call) : fnEv g c_interpreterlaw03_awake [] none = F_interpreterlaw03_awake g := by kernel_rfl

/-- interpreter/ip4.Bytes -/
noncomputable def F_ip4_Bytes (g : Call) (a0 : LV) : Option (LV × Option LV) :=
 (pr.box a0).bind fun t1_0 =>
 (pr.load 17 true noSlots t1_0).bind fun t9_3 =>
 (pr.call g id_ip4_why noSlots [t9_3]).bind fun t10_4 =>
 (pr.bin .neq t10_4 (LV.int .i64 0)).bind fun t12_7 =>
 condK t12_7 (
 (pr.call g id_ip4_fault noSlots [t10_4]).bind fun t14_9 =>
 pr.fin none noSlots [(LV.str []), t14_9]) (
 (pr.fieldAddr 4 4 t1_0).bind fun t15_12 =>
 (pr.load 1 false noSlots t15_12).bind fun t16_13 =>
 (pr.bin .quo t16_13 (LV.int .i64 8)).bind fun t17_14 =>
 (pr.fieldAddr 5 5 t1_0).bind fun t18_16 =>
 (pr.load 1 false noSlots t18_16).bind fun t19_17 =>
 condK t19_17 (
 (pr.bin .or t17_14 (LV.int .i64 16384)).bind fun t21_19 =>
 (pr.fieldAddr 6 6 t1_0).bind fun t22_21 =>
 (pr.load 1 false noSlots t22_21).bind fun t23_22 =>
 condK t23_22 (
 (pr.bin .or t21_19 (LV.int .i64 8192)).bind fun t25_24 =>
 (pr.fieldAddr 9 15 t1_0).bind fun t26_26 =>
 (pr.load 1 false noSlots t26_26).bind fun t27_27 =>
 (pr.len true t27_27).bind fun t28_28 =>
 (pr.bin .add (LV.int .i64 20) t28_28).bind fun t29_29 =>
 (pr.bin .quo t29_29 (LV.int .i64 4)).bind fun t31_32 =>
 (pr.bin .add (LV.int .i64 64) t31_32).bind fun t32_33 =>
 (pr.call g id_ip4_big noSlots [t32_33, (LV.int .i64 1)]).bind fun t33_34 =>
 (pr.fieldAddr 0 0 t1_0).bind fun t34_35 =>
 (pr.load 1 false noSlots t34_35).bind fun t35_36 =>
 (pr.call g id_ip4_big noSlots [t35_36, (LV.int .i64 1)]).bind fun t36_37 =>
 (pr.bin .add t33_34 t36_37).bind fun t37_38 =>
 (pr.fieldAddr 10 16 t1_0).bind fun t39_40 =>
 (pr.load 1 false noSlots t39_40).bind fun t40_41 =>
 (pr.len true t40_41).bind fun t41_42 =>
 (pr.bin .add t29_29 t41_42).bind fun t42_43 =>
 (pr.call g id_ip4_big noSlots [t42_43, (LV.int .i64 2)]).bind fun t43_44 =>
 (pr.bin .add t37_38 t43_44).bind fun t44_45 =>
 (pr.fieldAddr 1 1 t1_0).bind fun t45_46 =>
 (pr.load 1 false noSlots t45_46).bind fun t46_47 =>
 (pr.call g id_ip4_big noSlots [t46_47, (LV.int .i64 2)]).bind fun t47_48 =>
 (pr.bin .add t44_45 t47_48).bind fun t48_49 =>
 (pr.call g id_ip4_big noSlots [t25_24, (LV.int .i64 2)]).bind fun t50_51 =>
 (pr.bin .add t48_49 t50_51).bind fun t51_52 =>
 (pr.fieldAddr 2 2 t1_0).bind fun t52_53 =>
 (pr.load 1 false noSlots t52_53).bind fun t53_54 =>
 (pr.call g id_ip4_big noSlots [t53_54, (LV.int .i64 1)]).bind fun t54_55 =>
 (pr.bin .add t51_52 t54_55).bind fun t55_56 =>
 (pr.fieldAddr 3 3 t1_0).bind fun t56_57 =>
 (pr.load 1 false noSlots t56_57).bind fun t57_58 =>
 (pr.call g id_ip4_big noSlots [t57_58, (LV.int .i64 1)]).bind fun t58_59 =>
 (pr.bin .add t55_56 t58_59).bind fun t59_60 =>
 (pr.fieldAddr 7 7 t1_0).bind fun t60_62 =>
 (pr.slcArr 4 noSlots t60_62 none none).bind fun t61_63 =>
 (pr.b2s noSlots t61_63).bind fun t62_64 =>
 (pr.fieldAddr 8 11 t1_0).bind fun t63_65 =>
 (pr.slcArr 4 noSlots t63_65 none none).bind fun t64_66 =>
 (pr.b2s noSlots t64_66).bind fun t65_67 =>
 (pr.bin .add t62_64 t65_67).bind fun t66_68 =>
 (pr.fieldAddr 9 15 t1_0).bind fun t67_69 =>
 (pr.load 1 false noSlots t67_69).bind fun t68_70 =>
 (pr.bin .add t66_68 t68_70).bind fun t69_71 =>
 (pr.bsl (LV.str []) 2 [(0, t59_60), (1, t69_71)]).bind fun t73_76 =>
 (pr.call g id_sum_Of noSlots [t73_76]).bind fun t74_77 =>
 (pr.call g id_ip4_big noSlots [t74_77, (LV.int .i64 2)]).bind fun t75_78 =>
 (pr.bin .add t59_60 t75_78).bind fun t76_79 =>
 (pr.bin .add t76_79 t69_71).bind fun t78_81 =>
 (pr.fieldAddr 10 16 t1_0).bind fun t79_82 =>
 (pr.load 1 false noSlots t79_82).bind fun t80_83 =>
 (pr.bin .add t78_81 t80_83).bind fun t81_84 =>
 pr.fin none noSlots [t81_84, LV.nili]) (
 (pr.fieldAddr 9 15 t1_0).bind fun t26_87 =>
 (pr.load 1 false noSlots t26_87).bind fun t27_88 =>
 (pr.len true t27_88).bind fun t28_89 =>
 (pr.bin .add (LV.int .i64 20) t28_89).bind fun t29_90 =>
 (pr.bin .quo t29_90 (LV.int .i64 4)).bind fun t31_93 =>
 (pr.bin .add (LV.int .i64 64) t31_93).bind fun t32_94 =>
 (pr.call g id_ip4_big noSlots [t32_94, (LV.int .i64 1)]).bind fun t33_95 =>
 (pr.fieldAddr 0 0 t1_0).bind fun t34_96 =>
 (pr.load 1 false noSlots t34_96).bind fun t35_97 =>
 (pr.call g id_ip4_big noSlots [t35_97, (LV.int .i64 1)]).bind fun t36_98 =>
 (pr.bin .add t33_95 t36_98).bind fun t37_99 =>
 (pr.fieldAddr 10 16 t1_0).bind fun t39_101 =>
 (pr.load 1 false noSlots t39_101).bind fun t40_102 =>
 (pr.len true t40_102).bind fun t41_103 =>
 (pr.bin .add t29_90 t41_103).bind fun t42_104 =>
 (pr.call g id_ip4_big noSlots [t42_104, (LV.int .i64 2)]).bind fun t43_105 =>
 (pr.bin .add t37_99 t43_105).bind fun t44_106 =>
 (pr.fieldAddr 1 1 t1_0).bind fun t45_107 =>
 (pr.load 1 false noSlots t45_107).bind fun t46_108 =>
 (pr.call g id_ip4_big noSlots [t46_108, (LV.int .i64 2)]).bind fun t47_109 =>
 (pr.bin .add t44_106 t47_109).bind fun t48_110 =>
 (pr.call g id_ip4_big noSlots [t21_19, (LV.int .i64 2)]).bind fun t50_112 =>
 (pr.bin .add t48_110 t50_112).bind fun t51_113 =>
 (pr.fieldAddr 2 2 t1_0).bind fun t52_114 =>
 (pr.load 1 false noSlots t52_114).bind fun t53_115 =>
 (pr.call g id_ip4_big noSlots [t53_115, (LV.int .i64 1)]).bind fun t54_116 =>
 (pr.bin .add t51_113 t54_116).bind fun t55_117 =>
 (pr.fieldAddr 3 3 t1_0).bind fun t56_118 =>
 (pr.load 1 false noSlots t56_118).bind fun t57_119 =>
 (pr.call g id_ip4_big noSlots [t57_119, (LV.int .i64 1)]).bind fun t58_120 =>
 (pr.bin .add t55_117 t58_120).bind fun t59_121 =>
 (pr.fieldAddr 7 7 t1_0).bind fun t60_123 =>
 (pr.slcArr 4 noSlots t60_123 none none).bind fun t61_124 =>
 (pr.b2s noSlots t61_124).bind fun t62_125 =>
 (pr.fieldAddr 8 11 t1_0).bind fun t63_126 =>
 (pr.slcArr 4 noSlots t63_126 none none).bind fun t64_127 =>
 (pr.b2s noSlots t64_127).bind fun t65_128 =>
 (pr.bin .add t62_125 t65_128).bind fun t66_129 =>
 (pr.fieldAddr 9 15 t1_0).bind fun t67_130 =>
 (pr.load 1 false noSlots t67_130).bind fun t68_131 =>
 (pr.bin .add t66_129 t68_131).bind fun t69_132 =>
 (pr.bsl (LV.str []) 2 [(0, t59_121), (1, t69_132)]).bind fun t73_137 =>
 (pr.call g id_sum_Of noSlots [t73_137]).bind fun t74_138 =>
 (pr.call g id_ip4_big noSlots [t74_138, (LV.int .i64 2)]).bind fun t75_139 =>
 (pr.bin .add t59_121 t75_139).bind fun t76_140 =>
 (pr.bin .add t76_140 t69_132).bind fun t78_142 =>
 (pr.fieldAddr 10 16 t1_0).bind fun t79_143 =>
 (pr.load 1 false noSlots t79_143).bind fun t80_144 =>
 (pr.bin .add t78_142 t80_144).bind fun t81_145 =>
 pr.fin none noSlots [t81_145, LV.nili])) (
 (pr.fieldAddr 6 6 t1_0).bind fun t22_148 =>
 (pr.load 1 false noSlots t22_148).bind fun t23_149 =>
 condK t23_149 (
 (pr.bin .or t17_14 (LV.int .i64 8192)).bind fun t25_151 =>
 (pr.fieldAddr 9 15 t1_0).bind fun t26_153 =>
 (pr.load 1 false noSlots t26_153).bind fun t27_154 =>
 (pr.len true t27_154).bind fun t28_155 =>
 (pr.bin .add (LV.int .i64 20) t28_155).bind fun t29_156 =>
 (pr.bin .quo t29_156 (LV.int .i64 4)).bind fun t31_159 =>
 (pr.bin .add (LV.int .i64 64) t31_159).bind fun t32_160 =>
 (pr.call g id_ip4_big noSlots [t32_160, (LV.int .i64 1)]).bind fun t33_161 =>
 (pr.fieldAddr 0 0 t1_0).bind fun t34_162 =>
 (pr.load 1 false noSlots t34_162).bind fun t35_163 =>
 (pr.call g id_ip4_big noSlots [t35_163, (LV.int .i64 1)]).bind fun t36_164 =>
 (pr.bin .add t33_161 t36_164).bind fun t37_165 =>
 (pr.fieldAddr 10 16 t1_0).bind fun t39_167 =>
 (pr.load 1 false noSlots t39_167).bind fun t40_168 =>
 (pr.len true t40_168).bind fun t41_169 =>
 (pr.bin .add t29_156 t41_169).bind fun t42_170 =>
 (pr.call g id_ip4_big noSlots [t42_170, (LV.int .i64 2)]).bind fun t43_171 =>
 (pr.bin .add t37_165 t43_171).bind fun t44_172 =>
 (pr.fieldAddr 1 1 t1_0).bind fun t45_173 =>
 (pr.load 1 false noSlots t45_173).bind fun t46_174 =>
 (pr.call g id_ip4_big noSlots [t46_174, (LV.int .i64 2)]).bind fun t47_175 =>
 (pr.bin .add t44_172 t47_175).bind fun t48_176 =>
 (pr.call g id_ip4_big noSlots [t25_151, (LV.int .i64 2)]).bind fun t50_178 =>
 (pr.bin .add t48_176 t50_178).bind fun t51_179 =>
 (pr.fieldAddr 2 2 t1_0).bind fun t52_180 =>
 (pr.load 1 false noSlots t52_180).bind fun t53_181 =>
 (pr.call g id_ip4_big noSlots [t53_181, (LV.int .i64 1)]).bind fun t54_182 =>
 (pr.bin .add t51_179 t54_182).bind fun t55_183 =>
 (pr.fieldAddr 3 3 t1_0).bind fun t56_184 =>
 (pr.load 1 false noSlots t56_184).bind fun t57_185 =>
 (pr.call g id_ip4_big noSlots [t57_185, (LV.int .i64 1)]).bind fun t58_186 =>
 (pr.bin .add t55_183 t58_186).bind fun t59_187 =>
 (pr.fieldAddr 7 7 t1_0).bind fun t60_189 =>
 (pr.slcArr 4 noSlots t60_189 none none).bind fun t61_190 =>
 (pr.b2s noSlots t61_190).bind fun t62_191 =>
 (pr.fieldAddr 8 11 t1_0).bind fun t63_192 =>
 (pr.slcArr 4 noSlots t63_192 none none).bind fun t64_193 =>
 (pr.b2s noSlots t64_193).bind fun t65_194 =>
 (pr.bin .add t62_191 t65_194).bind fun t66_195 =>
 (pr.fieldAddr 9 15 t1_0).bind fun t67_196 =>
 (pr.load 1 false noSlots t67_196).bind fun t68_197 =>
 (pr.bin .add t66_195 t68_197).bind fun t69_198 =>
 (pr.bsl (LV.str []) 2 [(0, t59_187), (1, t69_198)]).bind fun t73_203 =>
 (pr.call g id_sum_Of noSlots [t73_203]).bind fun t74_204 =>
 (pr.call g id_ip4_big noSlots [t74_204, (LV.int .i64 2)]).bind fun t75_205 =>
 (pr.bin .add t59_187 t75_205).bind fun t76_206 =>
 (pr.bin .add t76_206 t69_198).bind fun t78_208 =>
 (pr.fieldAddr 10 16 t1_0).bind fun t79_209 =>
 (pr.load 1 false noSlots t79_209).bind fun t80_210 =>
 (pr.bin .add t78_208 t80_210).bind fun t81_211 =>
 pr.fin none noSlots [t81_211, LV.nili]) (
 (pr.fieldAddr 9 15 t1_0).bind fun t26_214 =>
 (pr.load 1 false noSlots t26_214).bind fun t27_215 =>
 (pr.len true t27_215).bind fun t28_216 =>
 (pr.bin .add (LV.int .i64 20) t28_216).bind fun t29_217 =>
 (pr.bin .quo t29_217 (LV.int .i64 4)).bind fun t31_220 =>
 (pr.bin .add (LV.int .i64 64) t31_220).bind fun t32_221 =>
 (pr.call g id_ip4_big noSlots [t32_221, (LV.int .i64 1)]).bind fun t33_222 =>
 (pr.fieldAddr 0 0 t1_0).bind fun t34_223 =>
 (pr.load 1 false noSlots t34_223).bind fun t35_224 =>
 (pr.call g id_ip4_big noSlots [t35_224, (LV.int .i64 1)]).bind fun t36_225 =>
 (pr.bin .add t33_222 t36_225).bind fun t37_226 =>
 (pr.fieldAddr 10 16 t1_0).bind fun t39_228 =>
 (pr.load 1 false noSlots t39_228).bind fun t40_229 =>
 (pr.len true t40_229).bind fun t41_230 =>
 (pr.bin .add t29_217 t41_230).bind fun t42_231 =>
 (pr.call g id_ip4_big noSlots [t42_231, (LV.int .i64 2)]).bind fun t43_232 =>
 (pr.bin .add t37_226 t43_232).bind fun t44_233 =>
 (pr.fieldAddr 1 1 t1_0).bind fun t45_234 =>
 (pr.load 1 false noSlots t45_234).bind fun t46_235 =>
 (pr.call g id_ip4_big noSlots [t46_235, (LV.int .i64 2)]).bind fun t47_236 =>
 (pr.bin .add t44_233 t47_236).bind fun t48_237 =>
 (pr.call g id_ip4_big noSlots [t17_14, (LV.int .i64 2)]).bind fun t50_239 =>
 (pr.bin .add t48_237 t50_239).bind fun t51_240 =>
 (pr.fieldAddr 2 2 t1_0).bind fun t52_241 =>
 (pr.load 1 false noSlots t52_241).bind fun t53_242 =>
 (pr.call g id_ip4_big noSlots [t53_242, (LV.int .i64 1)]).bind fun t54_243 =>
 (pr.bin .add t51_240 t54_243).bind fun t55_244 =>
 (pr.fieldAddr 3 3 t1_0).bind fun t56_245 =>
 (pr.load 1 false noSlots t56_245).bind fun t57_246 =>
 (pr.call g id_ip4_big noSlots [t57_246, (LV.int .i64 1)]).bind fun t58_247 =>
 (pr.bin .add t55_244 t58_247).bind fun t59_248 =>
 (pr.fieldAddr 7 7 t1_0).bind fun t60_250 =>
 (pr.slcArr 4 noSlots t60_250 none none).bind fun t61_251 =>
 (pr.b2s noSlots t61_251).bind fun t62_252 =>
 (pr.fieldAddr 8 11 t1_0).bind fun t63_253 =>
 (pr.slcArr 4 noSlots t63_253 none none).bind fun t64_254 =>
 (pr.b2s noSlots t64_254).bind fun t65_255 =>
 (pr.bin .add t62_252 t65_255).bind fun t66_256 =>
 (pr.fieldAddr 9 15 t1_0).bind fun t67_257 =>
 (pr.load 1 false noSlots t67_257).bind fun t68_258 =>
 (pr.bin .add t66_256 t68_258).bind fun t69_259 =>
 (pr.bsl (LV.str []) 2 [(0, t59_248), (1, t69_259)]).bind fun t73_264 =>
 (pr.call g id_sum_Of noSlots [t73_264]).bind fun t74_265 =>
 (pr.call g id_ip4_big noSlots [t74_265, (LV.int .i64 2)]).bind fun t75_266 =>
 (pr.bin .add t59_248 t75_266).bind fun t76_267 =>
 (pr.bin .add t76_267 t69_259).bind fun t78_269 =>
 (pr.fieldAddr 10 16 t1_0).bind fun t79_270 =>
 (pr.load 1 false noSlots t79_270).bind fun t80_271 =>
 (pr.bin .add t78_269 t80_271).bind fun t81_272 =>
 pr.fin none noSlots [t81_272, LV.nili])))
theorem F_ip4_Bytes_eq (g : Call) (a0 : LV) : fnEv g c_ip4_Bytes [a0] none = F_ip4_Bytes g a0 := by kernel_rfl

/-- interpreter/interpreterref03.Bytes -/
noncomputable def F_interpreterref03_Bytes (g : Call) (a0 : LV) : Option (LV × Option LV) :=
 (pr.box a0).bind fun t1_0 =>
 (pr.load 17 true noSlots t1_0).bind fun t12_3 =>
 (pr.call g id_interpreterref03_Why noSlots [t12_3]).bind fun t13_4 =>
 (pr.bin .neq t13_4 (LV.int .i64 0)).bind fun t15_7 =>
 condK t15_7 (
 pr.fin none noSlots [(LV.str []), t13_4]) (
 (pr.fieldAddr 9 15 t1_0).bind fun t17_11 =>
 (pr.load 1 false noSlots t17_11).bind fun t18_12 =>
 (pr.len true t18_12).bind fun t19_13 =>
 (pr.bin .add (LV.int .i64 20) t19_13).bind fun t20_14 =>
 (pr.fieldAddr 4 4 t1_0).bind fun t21_16 =>
 (pr.load 1 false noSlots t21_16).bind fun t22_17 =>
 (pr.bin .quo t22_17 (LV.int .i64 8)).bind fun t23_18 =>
 (pr.fieldAddr 6 6 t1_0).bind fun t24_20 =>
 (pr.load 1 false noSlots t24_20).bind fun t25_21 =>
 condK t25_21 (
 (pr.bin .add t23_18 (LV.int .i64 8192)).bind fun t27_23 =>
 (pr.fieldAddr 5 5 t1_0).bind fun t28_25 =>
 (pr.load 1 false noSlots t28_25).bind fun t29_26 =>
 condK t29_26 (
 (pr.bin .add t27_23 (LV.int .i64 16384)).bind fun t31_28 =>
 (pr.fieldAddr 10 16 t1_0).bind fun t33_31 =>
 (pr.load 1 false noSlots t33_31).bind fun t34_32 =>
 (pr.len true t34_32).bind fun t35_33 =>
 (pr.bin .add t20_14 t35_33).bind fun t36_34 =>
 (pr.bin .quo t20_14 (LV.int .i64 4)).bind fun t38_37 =>
 (pr.bin .add (LV.int .i64 64) t38_37).bind fun t39_38 =>
 (pr.conv .u8 t39_38).bind fun t40_39 =>
 (pr.fieldAddr 0 0 t1_0).bind fun t41_40 =>
 (pr.load 1 false noSlots t41_40).bind fun t42_41 =>
 (pr.conv .u8 t42_41).bind fun t43_42 =>
 (pr.bin .quo t36_34 (LV.int .i64 256)).bind fun t45_44 =>
 (pr.conv .u8 t45_44).bind fun t46_45 =>
 (pr.bin .rem t36_34 (LV.int .i64 256)).bind fun t48_47 =>
 (pr.conv .u8 t48_47).bind fun t49_48 =>
 (pr.fieldAddr 1 1 t1_0).bind fun t50_49 =>
 (pr.load 1 false noSlots t50_49).bind fun t51_50 =>
 (pr.bin .quo t51_50 (LV.int .i64 256)).bind fun t52_51 =>
 (pr.conv .u8 t52_51).bind fun t53_52 =>
 (pr.fieldAddr 1 1 t1_0).bind fun t54_53 =>
 (pr.load 1 false noSlots t54_53).bind fun t55_54 =>
 (pr.bin .rem t55_54 (LV.int .i64 256)).bind fun t56_55 =>
 (pr.conv .u8 t56_55).bind fun t57_56 =>
 (pr.bin .quo t31_28 (LV.int .i64 256)).bind fun t59_58 =>
 (pr.conv .u8 t59_58).bind fun t60_59 =>
 (pr.bin .rem t31_28 (LV.int .i64 256)).bind fun t62_61 =>
 (pr.conv .u8 t62_61).bind fun t63_62 =>
 (pr.fieldAddr 2 2 t1_0).bind fun t64_63 =>
 (pr.load 1 false noSlots t64_63).bind fun t65_64 =>
 (pr.conv .u8 t65_64).bind fun t66_65 =>
 (pr.fieldAddr 3 3 t1_0).bind fun t67_66 =>
 (pr.load 1 false noSlots t67_66).bind fun t68_67 =>
 (pr.conv .u8 t68_67).bind fun t69_68 =>
 (pr.bslM 12 [(0, t40_39), (1, t43_42), (2, t46_45), (3, t49_48), (4, t53_52), (5, t57_56), (6, t60_59), (7, t63_62), (8, t66_65), (9, t69_68), (10, (LV.int .u8 0)), (11, (LV.int .u8 0))] 70 noSlots).bind fun t70_69 =>
 (whileW (fun q72 : List LV × Slots =>
 (pr.bin .lss (getL q72.1 1) (LV.int .i64 4)).bind fun t72_74 =>
 condK t72_74 (
 (pr.fieldAddr 7 7 t1_0).bind fun t77_77 =>
 (pr.idxAddr (some 4) 1 t77_77 (getL q72.1 1)).bind fun t78_78 =>
 (pr.load 1 false q72.2 t78_78).bind fun t79_79 =>
 (pr.bsl (LV.int .u8 0) 1 [(0, t79_79)]).bind fun t80_80 =>
 (pr.append 1 1 81 q72.2 (getL q72.1 0) t80_80).bind fun t81_81 =>
 (pr.bin .add (getL q72.1 1) (LV.int .i64 1)).bind fun t74_84 =>
 pr.round t70_69.2 .normal [t81_81.1, t74_84] t81_81.2) (
 pr.round t70_69.2 (.exit 0) [(getL q72.1 0), (getL q72.1 1)] q72.2)) ([t70_69.1, (LV.int .i64 0)], t70_69.2)).bind fun r72 =>
 exIf r72.1 (.exit 0) (
 (whileW (fun q87 : List LV × Slots =>
 (pr.bin .lss (getL q87.1 1) (LV.int .i64 4)).bind fun t83_89 =>
 condK t83_89 (
 (pr.fieldAddr 8 11 t1_0).bind fun t88_92 =>
 (pr.idxAddr (some 4) 1 t88_92 (getL q87.1 1)).bind fun t89_93 =>
 (pr.load 1 false q87.2 t89_93).bind fun t90_94 =>
 (pr.bsl (LV.int .u8 0) 1 [(0, t90_94)]).bind fun t91_95 =>
 (pr.append 1 1 92 q87.2 (getL q87.1 0) t91_95).bind fun t92_96 =>
 (pr.bin .add (getL q87.1 1) (LV.int .i64 1)).bind fun t85_99 =>
 pr.round r72.2.2 .normal [t92_96.1, t85_99] t92_96.2) (
 pr.round r72.2.2 (.exit 2) [(getL q87.1 0), (getL q87.1 1)] q87.2)) ([(getL r72.2.1 0), (LV.int .i64 0)], r72.2.2)).bind fun r87 =>
 exIf r87.1 (.exit 2) (
 (pr.fieldAddr 9 15 t1_0).bind fun t94_102 =>
 (pr.load 1 false r87.2.2 t94_102).bind fun t95_103 =>
 (pr.append 1 1 96 r87.2.2 (getL r87.2.1 0) t95_103).bind fun t96_104 =>
 (pr.b2s t96_104.2 t96_104.1).bind fun t98_107 =>
 (pr.call g id_interpreterref02_Of t96_104.2 [t98_107]).bind fun t99_108 =>
 (pr.bin .quo t99_108 (LV.int .i64 256)).bind fun t102_112 =>
 (pr.conv .u8 t102_112).bind fun t103_113 =>
 (pr.idxAddr none 1 t96_104.1 (LV.int .i64 10)).bind fun t104_114 =>
 (pr.store 1 false t96_104.2 t104_114 t103_113).bind fun u115 =>
 (pr.bin .rem t99_108 (LV.int .i64 256)).bind fun t107_118 =>
 (pr.conv .u8 t107_118).bind fun t108_119 =>
 (pr.idxAddr none 1 t96_104.1 (LV.int .i64 11)).bind fun t109_120 =>
 (pr.store 1 false u115.2 t109_120 t108_119).bind fun u121 =>
 (pr.b2s u121.2 t96_104.1).bind fun t111_123 =>
 (pr.fieldAddr 10 16 t1_0).bind fun t112_124 =>
 (pr.load 1 false u121.2 t112_124).bind fun t113_125 =>
 (pr.bin .add t111_123 t113_125).bind fun t114_126 =>
 pr.fin none u121.2 [t114_126, (LV.int .i64 0)]) (none)) (none)) (
 (pr.fieldAddr 10 16 t1_0).bind fun t33_130 =>
 (pr.load 1 false noSlots t33_130).bind fun t34_131 =>
 (pr.len true t34_131).bind fun t35_132 =>
 (pr.bin .add t20_14 t35_132).bind fun t36_133 =>
 (pr.bin .quo t20_14 (LV.int .i64 4)).bind fun t38_136 =>
 (pr.bin .add (LV.int .i64 64) t38_136).bind fun t39_137 =>
 (pr.conv .u8 t39_137).bind fun t40_138 =>
 (pr.fieldAddr 0 0 t1_0).bind fun t41_139 =>
 (pr.load 1 false noSlots t41_139).bind fun t42_140 =>
 (pr.conv .u8 t42_140).bind fun t43_141 =>
 (pr.bin .quo t36_133 (LV.int .i64 256)).bind fun t45_143 =>
 (pr.conv .u8 t45_143).bind fun t46_144 =>
 (pr.bin .rem t36_133 (LV.int .i64 256)).bind fun t48_146 =>
 (pr.conv .u8 t48_146).bind fun t49_147 =>
 (pr.fieldAddr 1 1 t1_0).bind fun t50_148 =>
 (pr.load 1 false noSlots t50_148).bind fun t51_149 =>
 (pr.bin .quo t51_149 (LV.int .i64 256)).bind fun t52_150 =>
 (pr.conv .u8 t52_150).bind fun t53_151 =>
 (pr.fieldAddr 1 1 t1_0).bind fun t54_152 =>
 (pr.load 1 false noSlots t54_152).bind fun t55_153 =>
 (pr.bin .rem t55_153 (LV.int .i64 256)).bind fun t56_154 =>
 (pr.conv .u8 t56_154).bind fun t57_155 =>
 (pr.bin .quo t27_23 (LV.int .i64 256)).bind fun t59_157 =>
 (pr.conv .u8 t59_157).bind fun t60_158 =>
 (pr.bin .rem t27_23 (LV.int .i64 256)).bind fun t62_160 =>
 (pr.conv .u8 t62_160).bind fun t63_161 =>
 (pr.fieldAddr 2 2 t1_0).bind fun t64_162 =>
 (pr.load 1 false noSlots t64_162).bind fun t65_163 =>
 (pr.conv .u8 t65_163).bind fun t66_164 =>
 (pr.fieldAddr 3 3 t1_0).bind fun t67_165 =>
 (pr.load 1 false noSlots t67_165).bind fun t68_166 =>
 (pr.conv .u8 t68_166).bind fun t69_167 =>
 (pr.bslM 12 [(0, t40_138), (1, t43_141), (2, t46_144), (3, t49_147), (4, t53_151), (5, t57_155), (6, t60_158), (7, t63_161), (8, t66_164), (9, t69_167), (10, (LV.int .u8 0)), (11, (LV.int .u8 0))] 70 noSlots).bind fun t70_168 =>
 (whileW (fun q171 : List LV × Slots =>
 (pr.bin .lss (getL q171.1 1) (LV.int .i64 4)).bind fun t72_173 =>
 condK t72_173 (
 (pr.fieldAddr 7 7 t1_0).bind fun t77_176 =>
 (pr.idxAddr (some 4) 1 t77_176 (getL q171.1 1)).bind fun t78_177 =>
 (pr.load 1 false q171.2 t78_177).bind fun t79_178 =>
 (pr.bsl (LV.int .u8 0) 1 [(0, t79_178)]).bind fun t80_179 =>
 (pr.append 1 1 81 q171.2 (getL q171.1 0) t80_179).bind fun t81_180 =>
 (pr.bin .add (getL q171.1 1) (LV.int .i64 1)).bind fun t74_183 =>
 pr.round t70_168.2 .normal [t81_180.1, t74_183] t81_180.2) (
 pr.round t70_168.2 (.exit 0) [(getL q171.1 0), (getL q171.1 1)] q171.2)) ([t70_168.1, (LV.int .i64 0)], t70_168.2)).bind fun r171 =>
 exIf r171.1 (.exit 0) (
 (whileW (fun q186 : List LV × Slots =>
 (pr.bin .lss (getL q186.1 1) (LV.int .i64 4)).bind fun t83_188 =>
 condK t83_188 (
 (pr.fieldAddr 8 11 t1_0).bind fun t88_191 =>
 (pr.idxAddr (some 4) 1 t88_191 (getL q186.1 1)).bind fun t89_192 =>
 (pr.load 1 false q186.2 t89_192).bind fun t90_193 =>
 (pr.bsl (LV.int .u8 0) 1 [(0, t90_193)]).bind fun t91_194 =>
 (pr.append 1 1 92 q186.2 (getL q186.1 0) t91_194).bind fun t92_195 =>
 (pr.bin .add (getL q186.1 1) (LV.int .i64 1)).bind fun t85_198 =>
 pr.round r171.2.2 .normal [t92_195.1, t85_198] t92_195.2) (
 pr.round r171.2.2 (.exit 2) [(getL q186.1 0), (getL q186.1 1)] q186.2)) ([(getL r171.2.1 0), (LV.int .i64 0)], r171.2.2)).bind fun r186 =>
 exIf r186.1 (.exit 2) (
 (pr.fieldAddr 9 15 t1_0).bind fun t94_201 =>
 (pr.load 1 false r186.2.2 t94_201).bind fun t95_202 =>
 (pr.append 1 1 96 r186.2.2 (getL r186.2.1 0) t95_202).bind fun t96_203 =>
 (pr.b2s t96_203.2 t96_203.1).bind fun t98_206 =>
 (pr.call g id_interpreterref02_Of t96_203.2 [t98_206]).bind fun t99_207 =>
 (pr.bin .quo t99_207 (LV.int .i64 256)).bind fun t102_211 =>
 (pr.conv .u8 t102_211).bind fun t103_212 =>
 (pr.idxAddr none 1 t96_203.1 (LV.int .i64 10)).bind fun t104_213 =>
 (pr.store 1 false t96_203.2 t104_213 t103_212).bind fun u214 =>
 (pr.bin .rem t99_207 (LV.int .i64 256)).bind fun t107_217 =>
 (pr.conv .u8 t107_217).bind fun t108_218 =>
 (pr.idxAddr none 1 t96_203.1 (LV.int .i64 11)).bind fun t109_219 =>
 (pr.store 1 false u214.2 t109_219 t108_218).bind fun u220 =>
 (pr.b2s u220.2 t96_203.1).bind fun t111_222 =>
 (pr.fieldAddr 10 16 t1_0).bind fun t112_223 =>
 (pr.load 1 false u220.2 t112_223).bind fun t113_224 =>
 (pr.bin .add t111_222 t113_224).bind fun t114_225 =>
 pr.fin none u220.2 [t114_225, (LV.int .i64 0)]) (none)) (none))) (
 (pr.fieldAddr 5 5 t1_0).bind fun t28_228 =>
 (pr.load 1 false noSlots t28_228).bind fun t29_229 =>
 condK t29_229 (
 (pr.bin .add t23_18 (LV.int .i64 16384)).bind fun t31_231 =>
 (pr.fieldAddr 10 16 t1_0).bind fun t33_234 =>
 (pr.load 1 false noSlots t33_234).bind fun t34_235 =>
 (pr.len true t34_235).bind fun t35_236 =>
 (pr.bin .add t20_14 t35_236).bind fun t36_237 =>
 (pr.bin .quo t20_14 (LV.int .i64 4)).bind fun t38_240 =>
 (pr.bin .add (LV.int .i64 64) t38_240).bind fun t39_241 =>
 (pr.conv .u8 t39_241).bind fun t40_242 =>
 (pr.fieldAddr 0 0 t1_0).bind fun t41_243 =>
 (pr.load 1 false noSlots t41_243).bind fun t42_244 =>
 (pr.conv .u8 t42_244).bind fun t43_245 =>
 (pr.bin .quo t36_237 (LV.int .i64 256)).bind fun t45_247 =>
 (pr.conv .u8 t45_247).bind fun t46_248 =>
 (pr.bin .rem t36_237 (LV.int .i64 256)).bind fun t48_250 =>
 (pr.conv .u8 t48_250).bind fun t49_251 =>
 (pr.fieldAddr 1 1 t1_0).bind fun t50_252 =>
 (pr.load 1 false noSlots t50_252).bind fun t51_253 =>
 (pr.bin .quo t51_253 (LV.int .i64 256)).bind fun t52_254 =>
 (pr.conv .u8 t52_254).bind fun t53_255 =>
 (pr.fieldAddr 1 1 t1_0).bind fun t54_256 =>
 (pr.load 1 false noSlots t54_256).bind fun t55_257 =>
 (pr.bin .rem t55_257 (LV.int .i64 256)).bind fun t56_258 =>
 (pr.conv .u8 t56_258).bind fun t57_259 =>
 (pr.bin .quo t31_231 (LV.int .i64 256)).bind fun t59_261 =>
 (pr.conv .u8 t59_261).bind fun t60_262 =>
 (pr.bin .rem t31_231 (LV.int .i64 256)).bind fun t62_264 =>
 (pr.conv .u8 t62_264).bind fun t63_265 =>
 (pr.fieldAddr 2 2 t1_0).bind fun t64_266 =>
 (pr.load 1 false noSlots t64_266).bind fun t65_267 =>
 (pr.conv .u8 t65_267).bind fun t66_268 =>
 (pr.fieldAddr 3 3 t1_0).bind fun t67_269 =>
 (pr.load 1 false noSlots t67_269).bind fun t68_270 =>
 (pr.conv .u8 t68_270).bind fun t69_271 =>
 (pr.bslM 12 [(0, t40_242), (1, t43_245), (2, t46_248), (3, t49_251), (4, t53_255), (5, t57_259), (6, t60_262), (7, t63_265), (8, t66_268), (9, t69_271), (10, (LV.int .u8 0)), (11, (LV.int .u8 0))] 70 noSlots).bind fun t70_272 =>
 (whileW (fun q275 : List LV × Slots =>
 (pr.bin .lss (getL q275.1 1) (LV.int .i64 4)).bind fun t72_277 =>
 condK t72_277 (
 (pr.fieldAddr 7 7 t1_0).bind fun t77_280 =>
 (pr.idxAddr (some 4) 1 t77_280 (getL q275.1 1)).bind fun t78_281 =>
 (pr.load 1 false q275.2 t78_281).bind fun t79_282 =>
 (pr.bsl (LV.int .u8 0) 1 [(0, t79_282)]).bind fun t80_283 =>
 (pr.append 1 1 81 q275.2 (getL q275.1 0) t80_283).bind fun t81_284 =>
 (pr.bin .add (getL q275.1 1) (LV.int .i64 1)).bind fun t74_287 =>
 pr.round t70_272.2 .normal [t81_284.1, t74_287] t81_284.2) (
 pr.round t70_272.2 (.exit 0) [(getL q275.1 0), (getL q275.1 1)] q275.2)) ([t70_272.1, (LV.int .i64 0)], t70_272.2)).bind fun r275 =>
 exIf r275.1 (.exit 0) (
 (whileW (fun q290 : List LV × Slots =>
 (pr.bin .lss (getL q290.1 1) (LV.int .i64 4)).bind fun t83_292 =>
 condK t83_292 (
 (pr.fieldAddr 8 11 t1_0).bind fun t88_295 =>
 (pr.idxAddr (some 4) 1 t88_295 (getL q290.1 1)).bind fun t89_296 =>
 (pr.load 1 false q290.2 t89_296).bind fun t90_297 =>
 (pr.bsl (LV.int .u8 0) 1 [(0, t90_297)]).bind fun t91_298 =>
 (pr.append 1 1 92 q290.2 (getL q290.1 0) t91_298).bind fun t92_299 =>
 (pr.bin .add (getL q290.1 1) (LV.int .i64 1)).bind fun t85_302 =>
 pr.round r275.2.2 .normal [t92_299.1, t85_302] t92_299.2) (
 pr.round r275.2.2 (.exit 2) [(getL q290.1 0), (getL q290.1 1)] q290.2)) ([(getL r275.2.1 0), (LV.int .i64 0)], r275.2.2)).bind fun r290 =>
 exIf r290.1 (.exit 2) (
 (pr.fieldAddr 9 15 t1_0).bind fun t94_305 =>
 (pr.load 1 false r290.2.2 t94_305).bind fun t95_306 =>
 (pr.append 1 1 96 r290.2.2 (getL r290.2.1 0) t95_306).bind fun t96_307 =>
 (pr.b2s t96_307.2 t96_307.1).bind fun t98_310 =>
 (pr.call g id_interpreterref02_Of t96_307.2 [t98_310]).bind fun t99_311 =>
 (pr.bin .quo t99_311 (LV.int .i64 256)).bind fun t102_315 =>
 (pr.conv .u8 t102_315).bind fun t103_316 =>
 (pr.idxAddr none 1 t96_307.1 (LV.int .i64 10)).bind fun t104_317 =>
 (pr.store 1 false t96_307.2 t104_317 t103_316).bind fun u318 =>
 (pr.bin .rem t99_311 (LV.int .i64 256)).bind fun t107_321 =>
 (pr.conv .u8 t107_321).bind fun t108_322 =>
 (pr.idxAddr none 1 t96_307.1 (LV.int .i64 11)).bind fun t109_323 =>
 (pr.store 1 false u318.2 t109_323 t108_322).bind fun u324 =>
 (pr.b2s u324.2 t96_307.1).bind fun t111_326 =>
 (pr.fieldAddr 10 16 t1_0).bind fun t112_327 =>
 (pr.load 1 false u324.2 t112_327).bind fun t113_328 =>
 (pr.bin .add t111_326 t113_328).bind fun t114_329 =>
 pr.fin none u324.2 [t114_329, (LV.int .i64 0)]) (none)) (none)) (
 (pr.fieldAddr 10 16 t1_0).bind fun t33_333 =>
 (pr.load 1 false noSlots t33_333).bind fun t34_334 =>
 (pr.len true t34_334).bind fun t35_335 =>
 (pr.bin .add t20_14 t35_335).bind fun t36_336 =>
 (pr.bin .quo t20_14 (LV.int .i64 4)).bind fun t38_339 =>
 (pr.bin .add (LV.int .i64 64) t38_339).bind fun t39_340 =>
 (pr.conv .u8 t39_340).bind fun t40_341 =>
 (pr.fieldAddr 0 0 t1_0).bind fun t41_342 =>
 (pr.load 1 false noSlots t41_342).bind fun t42_343 =>
 (pr.conv .u8 t42_343).bind fun t43_344 =>
 (pr.bin .quo t36_336 (LV.int .i64 256)).bind fun t45_346 =>
 (pr.conv .u8 t45_346).bind fun t46_347 =>
 (pr.bin .rem t36_336 (LV.int .i64 256)).bind fun t48_349 =>
 (pr.conv .u8 t48_349).bind fun t49_350 =>
 (pr.fieldAddr 1 1 t1_0).bind fun t50_351 =>
 (pr.load 1 false noSlots t50_351).bind fun t51_352 =>
 (pr.bin .quo t51_352 (LV.int .i64 256)).bind fun t52_353 =>
 (pr.conv .u8 t52_353).bind fun t53_354 =>
 (pr.fieldAddr 1 1 t1_0).bind fun t54_355 =>
 (pr.load 1 false noSlots t54_355).bind fun t55_356 =>
 (pr.bin .rem t55_356 (LV.int .i64 256)).bind fun t56_357 =>
 (pr.conv .u8 t56_357).bind fun t57_358 =>
 (pr.bin .quo t23_18 (LV.int .i64 256)).bind fun t59_360 =>
 (pr.conv .u8 t59_360).bind fun t60_361 =>
 (pr.bin .rem t23_18 (LV.int .i64 256)).bind fun t62_363 =>
 (pr.conv .u8 t62_363).bind fun t63_364 =>
 (pr.fieldAddr 2 2 t1_0).bind fun t64_365 =>
 (pr.load 1 false noSlots t64_365).bind fun t65_366 =>
 (pr.conv .u8 t65_366).bind fun t66_367 =>
 (pr.fieldAddr 3 3 t1_0).bind fun t67_368 =>
 (pr.load 1 false noSlots t67_368).bind fun t68_369 =>
 (pr.conv .u8 t68_369).bind fun t69_370 =>
 (pr.bslM 12 [(0, t40_341), (1, t43_344), (2, t46_347), (3, t49_350), (4, t53_354), (5, t57_358), (6, t60_361), (7, t63_364), (8, t66_367), (9, t69_370), (10, (LV.int .u8 0)), (11, (LV.int .u8 0))] 70 noSlots).bind fun t70_371 =>
 (whileW (fun q374 : List LV × Slots =>
 (pr.bin .lss (getL q374.1 1) (LV.int .i64 4)).bind fun t72_376 =>
 condK t72_376 (
 (pr.fieldAddr 7 7 t1_0).bind fun t77_379 =>
 (pr.idxAddr (some 4) 1 t77_379 (getL q374.1 1)).bind fun t78_380 =>
 (pr.load 1 false q374.2 t78_380).bind fun t79_381 =>
 (pr.bsl (LV.int .u8 0) 1 [(0, t79_381)]).bind fun t80_382 =>
 (pr.append 1 1 81 q374.2 (getL q374.1 0) t80_382).bind fun t81_383 =>
 (pr.bin .add (getL q374.1 1) (LV.int .i64 1)).bind fun t74_386 =>
 pr.round t70_371.2 .normal [t81_383.1, t74_386] t81_383.2) (
 pr.round t70_371.2 (.exit 0) [(getL q374.1 0), (getL q374.1 1)] q374.2)) ([t70_371.1, (LV.int .i64 0)], t70_371.2)).bind fun r374 =>
 exIf r374.1 (.exit 0) (
 (whileW (fun q389 : List LV × Slots =>
 (pr.bin .lss (getL q389.1 1) (LV.int .i64 4)).bind fun t83_391 =>
 condK t83_391 (
 (pr.fieldAddr 8 11 t1_0).bind fun t88_394 =>
 (pr.idxAddr (some 4) 1 t88_394 (getL q389.1 1)).bind fun t89_395 =>
 (pr.load 1 false q389.2 t89_395).bind fun t90_396 =>
 (pr.bsl (LV.int .u8 0) 1 [(0, t90_396)]).bind fun t91_397 =>
 (pr.append 1 1 92 q389.2 (getL q389.1 0) t91_397).bind fun t92_398 =>
 (pr.bin .add (getL q389.1 1) (LV.int .i64 1)).bind fun t85_401 =>
 pr.round r374.2.2 .normal [t92_398.1, t85_401] t92_398.2) (
 pr.round r374.2.2 (.exit 2) [(getL q389.1 0), (getL q389.1 1)] q389.2)) ([(getL r374.2.1 0), (LV.int .i64 0)], r374.2.2)).bind fun r389 =>
 exIf r389.1 (.exit 2) (
 (pr.fieldAddr 9 15 t1_0).bind fun t94_404 =>
 (pr.load 1 false r389.2.2 t94_404).bind fun t95_405 =>
 (pr.append 1 1 96 r389.2.2 (getL r389.2.1 0) t95_405).bind fun t96_406 =>
 (pr.b2s t96_406.2 t96_406.1).bind fun t98_409 =>
 (pr.call g id_interpreterref02_Of t96_406.2 [t98_409]).bind fun t99_410 =>
 (pr.bin .quo t99_410 (LV.int .i64 256)).bind fun t102_414 =>
 (pr.conv .u8 t102_414).bind fun t103_415 =>
 (pr.idxAddr none 1 t96_406.1 (LV.int .i64 10)).bind fun t104_416 =>
 (pr.store 1 false t96_406.2 t104_416 t103_415).bind fun u417 =>
 (pr.bin .rem t99_410 (LV.int .i64 256)).bind fun t107_420 =>
 (pr.conv .u8 t107_420).bind fun t108_421 =>
 (pr.idxAddr none 1 t96_406.1 (LV.int .i64 11)).bind fun t109_422 =>
 (pr.store 1 false u417.2 t109_422 t108_421).bind fun u423 =>
 (pr.b2s u423.2 t96_406.1).bind fun t111_425 =>
 (pr.fieldAddr 10 16 t1_0).bind fun t112_426 =>
 (pr.load 1 false u423.2 t112_426).bind fun t113_427 =>
 (pr.bin .add t111_425 t113_427).bind fun t114_428 =>
 pr.fin none u423.2 [t114_428, (LV.int .i64 0)]) (none)) (none))))
theorem F_interpreterref03_Bytes_eq (g : Call) (a0 : LV) : fnEv g c_interpreterref03_Bytes [a0] none = F_interpreterref03_Bytes g a0 := by kernel_rfl

/-- interpreter/interpreterlaw03.same -/
noncomputable def F_interpreterlaw03_same (g : Call) (a0 : LV) (a1 : LV) : Option (LV × Option LV) :=
 (pr.bin .eql a1 (LV.int .i64 0)).bind fun t8_2 =>
 condK t8_2 (
 (pr.eqNil 1 false a0).bind fun t10_4 =>
 pr.fin none noSlots [t10_4]) (
 (pr.assert ty_ptr_num_Fault true LV.nilp a0).bind fun t13_7 =>
 (pr.extract t13_7 0).bind fun t14_9 =>
 (pr.extract t13_7 1).bind fun t15_10 =>
 (pr.guard t15_10 true).bind fun b15 =>
 (if b15 = true then some t14_9 else some LV.undef).bind fun t18_15 =>
 (pr.guard t15_10 true).bind fun b16 =>
 (if b16 = true then pr.eqNil 0 true t18_15 else some LV.undef).bind fun t19_16 =>
 (pr.pick t15_10 t19_16 (LV.bool false)).bind fun t20_17 =>
 (pr.guard t20_17 true).bind fun b19 =>
 (if b19 = true then some t14_9 else some LV.undef).bind fun t22_19 =>
 (pr.guard t20_17 true).bind fun b20 =>
 (if b20 = true then pr.nilCheck t22_19 else some LV.undef).bind fun t23_20 =>
 (pr.guard t20_17 true).bind fun b21 =>
 (if b21 = true then pr.fieldAddr 0 0 t23_20 else some LV.undef).bind fun t24_21 =>
 (pr.guard t20_17 true).bind fun b22 =>
 (if b22 = true then pr.load 1 false noSlots t24_21 else some LV.undef).bind fun t25_22 =>
 (pr.guard t20_17 true).bind fun b23 =>
 (if b23 = true then some a1 else some LV.undef).bind fun t26_23 =>
 (pr.guard t20_17 true).bind fun b24 =>
 (if b24 = true then pr.bin .eql t25_22 t26_23 else some LV.undef).bind fun t27_24 =>
 (pr.pick t20_17 t27_24 (LV.bool false)).bind fun t28_25 =>
 (pr.guard t28_25 true).bind fun b27 =>
 (if b27 = true then some t14_9 else some LV.undef).bind fun t30_27 =>
 (pr.guard t28_25 true).bind fun b28 =>
 (if b28 = true then pr.nilCheck t30_27 else some LV.undef).bind fun t31_28 =>
 (pr.guard t28_25 true).bind fun b29 =>
 (if b29 = true then pr.fieldAddr 1 1 t31_28 else some LV.undef).bind fun t32_29 =>
 (pr.guard t28_25 true).bind fun b30 =>
 (if b30 = true then pr.load 1 false noSlots t32_29 else some LV.undef).bind fun t33_30 =>
 (pr.guard t28_25 true).bind fun b31 =>
 (if b31 = true then pr.bin .eql t33_30 (LV.int .i64 0) else some LV.undef).bind fun t34_31 =>
 (pr.pick t28_25 t34_31 (LV.bool false)).bind fun t35_32 =>
 pr.fin none noSlots [t35_32])
theorem F_interpreterlaw03_same_eq (g : Call) (a0 : LV) (a1 : LV) : fnEv g c_interpreterlaw03_same [a0, a1] none = F_interpreterlaw03_same g a0 a1 := by kernel_rfl

/-- interpreter/ip4.Parse -/
noncomputable def F_ip4_Parse (g : Call) (a0 : LV) : Option (LV × Option LV) :=
 (pr.box a0).bind fun t1_0 =>
 (pr.alloc (LV.agg [(LV.int .i64 0), (LV.int .i64 0), (LV.int .i64 0), (LV.int .i64 0), (LV.int .i64 0), (LV.bool false), (LV.bool false), (LV.bytes [0, 0, 0, 0]), (LV.bytes [0, 0, 0, 0]), (LV.str []), (LV.str [])]) 2 noSlots).bind fun t2_1 =>
 (pr.alloc (LV.agg [(LV.int .i64 0), (LV.int .i64 0), (LV.int .i64 0), (LV.int .i64 0), (LV.int .i64 0), (LV.bool false), (LV.bool false), (LV.bytes [0, 0, 0, 0]), (LV.bytes [0, 0, 0, 0]), (LV.str []), (LV.str [])]) 4 t2_1.2).bind fun t4_3 =>
 (pr.load 1 false t4_3.2 t1_0).bind fun t10_4 =>
 (pr.len true t10_4).bind fun t11_5 =>
 (pr.bin .lss t11_5 (LV.int .i64 20)).bind fun t12_6 =>
 condK t12_6 (
 (pr.load 17 true t4_3.2 t4_3.1).bind fun t13_7 =>
 (pr.call g id_ip4_fault t4_3.2 [(LV.int .i64 7)]).bind fun t14_8 =>
 (pr.store 17 true t4_3.2 t2_1.1 t13_7).bind fun u9 =>
 (pr.load 17 true u9.2 t2_1.1).bind fun v11 =>
 pr.fin none u9.2 [v11, t14_8]) (
 (pr.load 1 false t4_3.2 t1_0).bind fun t15_12 =>
 (pr.idxStr t15_12 (LV.int .i64 0)).bind fun t16_13 =>
 (pr.bin .and t16_13 (LV.int .u8 15)).bind fun t17_14 =>
 (pr.conv .i64 t17_14).bind fun t18_15 =>
 (pr.bin .mul t18_15 (LV.int .i64 4)).bind fun t19_16 =>
 (pr.load 1 false t4_3.2 t1_0).bind fun t21_18 =>
 (pr.idxStr t21_18 (LV.int .i64 0)).bind fun t22_19 =>
 (pr.bin .shr t22_19 (LV.int .u64 4)).bind fun t23_20 =>
 (pr.bin .neq t23_20 (LV.int .u8 4)).bind fun t24_21 =>
 (pr.guard t24_21 false).bind fun b23 =>
 (if b23 = true then some t19_16 else some LV.undef).bind fun t26_23 =>
 (pr.guard t24_21 false).bind fun b24 =>
 (if b24 = true then pr.bin .lss t26_23 (LV.int .i64 20) else some LV.undef).bind fun t27_24 =>
 (pr.pick t24_21 (LV.bool true) t27_24).bind fun t28_25 =>
 condK t28_25 (
 (pr.load 17 true t4_3.2 t4_3.1).bind fun t29_27 =>
 (pr.call g id_ip4_fault t4_3.2 [(LV.int .i64 8)]).bind fun t30_28 =>
 (pr.store 17 true t4_3.2 t2_1.1 t29_27).bind fun u29 =>
 (pr.load 17 true u29.2 t2_1.1).bind fun v31 =>
 pr.fin none u29.2 [v31, t30_28]) (
 (pr.load 1 false t4_3.2 t1_0).bind fun t32_32 =>
 (pr.len true t32_32).bind fun t33_33 =>
 (pr.bin .lss t33_33 t19_16).bind fun t35_35 =>
 condK t35_35 (
 (pr.load 17 true t4_3.2 t4_3.1).bind fun t36_37 =>
 (pr.call g id_ip4_fault t4_3.2 [(LV.int .i64 7)]).bind fun t37_38 =>
 (pr.store 17 true t4_3.2 t2_1.1 t36_37).bind fun u39 =>
 (pr.load 17 true u39.2 t2_1.1).bind fun v41 =>
 pr.fin none u39.2 [v41, t37_38]) (
 (pr.load 1 false t4_3.2 t1_0).bind fun t39_42 =>
 (pr.slc 0 t39_42 none (some t19_16)).bind fun t41_44 =>
 (pr.bsl (LV.str []) 1 [(0, t41_44)]).bind fun t42_45 =>
 (pr.call g id_sum_Right t4_3.2 [t42_45]).bind fun t43_46 =>
 (pr.un .not t43_46).bind fun t44_47 =>
 condK t44_47 (
 (pr.load 17 true t4_3.2 t4_3.1).bind fun t45_49 =>
 (pr.call g id_ip4_fault t4_3.2 [(LV.int .i64 9)]).bind fun t46_50 =>
 (pr.store 17 true t4_3.2 t2_1.1 t45_49).bind fun u51 =>
 (pr.load 17 true u51.2 t2_1.1).bind fun v53 =>
 pr.fin none u51.2 [v53, t46_50]) (
 (pr.mkFunc id_ip4_Parse_1 [t1_0]).bind fun t47_54 =>
 (pr.callv g t4_3.2 t47_54 [(LV.int .i64 2)]).bind fun t49_57 =>
 (pr.callv g t4_3.2 t47_54 [(LV.int .i64 6)]).bind fun t51_59 =>
 (pr.bin .lss t49_57 t19_16).bind fun t55_64 =>
 condK t55_64 (
 (pr.load 17 true t4_3.2 t4_3.1).bind fun t56_66 =>
 (pr.call g id_ip4_fault t4_3.2 [(LV.int .i64 8)]).bind fun t57_67 =>
 (pr.store 17 true t4_3.2 t2_1.1 t56_66).bind fun u68 =>
 (pr.load 17 true u68.2 t2_1.1).bind fun v70 =>
 pr.fin none u68.2 [v70, t57_67]) (
 (pr.load 1 false t4_3.2 t1_0).bind fun t59_71 =>
 (pr.len true t59_71).bind fun t60_72 =>
 (pr.bin .lss t60_72 t49_57).bind fun t62_74 =>
 condK t62_74 (
 (pr.load 17 true t4_3.2 t4_3.1).bind fun t63_76 =>
 (pr.call g id_ip4_fault t4_3.2 [(LV.int .i64 7)]).bind fun t64_77 =>
 (pr.store 17 true t4_3.2 t2_1.1 t63_76).bind fun u78 =>
 (pr.load 17 true u78.2 t2_1.1).bind fun v80 =>
 pr.fin none u78.2 [v80, t64_77]) (
 (pr.load 1 false t4_3.2 t1_0).bind fun t65_81 =>
 (pr.idxStr t65_81 (LV.int .i64 1)).bind fun t66_82 =>
 (pr.conv .i64 t66_82).bind fun t67_83 =>
 (pr.callv g t4_3.2 t47_54 [(LV.int .i64 4)]).bind fun t69_85 =>
 (pr.load 1 false t4_3.2 t1_0).bind fun t70_86 =>
 (pr.idxStr t70_86 (LV.int .i64 8)).bind fun t71_87 =>
 (pr.conv .i64 t71_87).bind fun t72_88 =>
 (pr.load 1 false t4_3.2 t1_0).bind fun t73_89 =>
 (pr.idxStr t73_89 (LV.int .i64 9)).bind fun t74_90 =>
 (pr.conv .i64 t74_90).bind fun t75_91 =>
 (pr.bin .and t51_59 (LV.int .i64 8191)).bind fun t77_93 =>
 (pr.bin .mul t77_93 (LV.int .i64 8)).bind fun t78_94 =>
 (pr.bin .and t51_59 (LV.int .i64 16384)).bind fun t80_96 =>
 (pr.bin .neq t80_96 (LV.int .i64 0)).bind fun t81_97 =>
 (pr.bin .and t51_59 (LV.int .i64 8192)).bind fun t83_99 =>
 (pr.bin .neq t83_99 (LV.int .i64 0)).bind fun t84_100 =>
 (pr.load 1 false t4_3.2 t1_0).bind fun t85_101 =>
 (pr.slc 0 t85_101 (some (LV.int .i64 20)) (some t19_16)).bind fun t87_103 =>
 (pr.load 1 false t4_3.2 t1_0).bind fun t88_104 =>
 (pr.slc 0 t88_104 (some t19_16) (some t49_57)).bind fun t91_107 =>
 (pr.parts (LV.agg [(LV.int .i64 0), (LV.int .i64 0), (LV.int .i64 0), (LV.int .i64 0), (LV.int .i64 0), (LV.bool false), (LV.bool false), (LV.bytes [0, 0, 0, 0]), (LV.bytes [0, 0, 0, 0]), (LV.str []), (LV.str [])]) [(0, t67_83), (1, t69_85), (2, t72_88), (3, t75_91), (4, t78_94), (5, t81_97), (6, t84_100), (9, t87_103), (10, t91_107)]).bind fun t92_108 =>
 (pr.alloc (LV.agg [(LV.int .i64 0), (LV.int .i64 0), (LV.int .i64 0), (LV.int .i64 0), (LV.int .i64 0), (LV.bool false), (LV.bool false), (LV.bytes [0, 0, 0, 0]), (LV.bytes [0, 0, 0, 0]), (LV.str []), (LV.str [])]) 9 t4_3.2).bind fun t9_109 =>
 (pr.store 17 true t9_109.2 t9_109.1 t92_108).bind fun u110 =>
 (pr.fieldAddr 7 7 t9_109.1).bind fun t93_111 =>
 (pr.slcArr 4 u110.2 t93_111 none none).bind fun t94_112 =>
 (pr.load 1 false u110.2 t1_0).bind fun t95_113 =>
 (pr.slc 0 t95_113 (some (LV.int .i64 12)) none).bind fun t96_114 =>
 (pr.copy u110.2 t94_112 t96_114).bind fun t97_115 =>
 (pr.fieldAddr 8 11 t9_109.1).bind fun t98_116 =>
 (pr.slcArr 4 t97_115.2 t98_116 none none).bind fun t99_117 =>
 (pr.load 1 false t97_115.2 t1_0).bind fun t100_118 =>
 (pr.slc 0 t100_118 (some (LV.int .i64 16)) none).bind fun t101_119 =>
 (pr.copy t97_115.2 t99_117 t101_119).bind fun t102_120 =>
 (pr.bin .and t51_59 (LV.int .i64 32768)).bind fun t104_122 =>
 (pr.bin .neq t104_122 (LV.int .i64 0)).bind fun t105_123 =>
 (pr.guard t105_123 false).bind fun b125 =>
 (if b125 = true then pr.load 17 true t102_120.2 t9_109.1 else some LV.undef).bind fun t107_125 =>
 (pr.guard t105_123 false).bind fun b126 =>
 (if b126 = true then pr.call g id_ip4_why t102_120.2 [t107_125] else some LV.undef).bind fun t108_126 =>
 (pr.guard t105_123 false).bind fun b127 =>
 (if b127 = true then pr.bin .neq t108_126 (LV.int .i64 0) else some LV.undef).bind fun t109_127 =>
 (pr.pick t105_123 (LV.bool true) t109_127).bind fun t110_128 =>
 condK t110_128 (
 (pr.load 17 true t102_120.2 t4_3.1).bind fun t111_129 =>
 (pr.call g id_ip4_fault t102_120.2 [(LV.int .i64 8)]).bind fun t112_130 =>
 (pr.store 17 true t102_120.2 t2_1.1 t111_129).bind fun u131 =>
 (pr.load 17 true u131.2 t2_1.1).bind fun v133 =>
 pr.fin none u131.2 [v133, t112_130]) (
 (pr.load 17 true t102_120.2 t9_109.1).bind fun t113_134 =>
 (pr.store 17 true t102_120.2 t2_1.1 t113_134).bind fun u135 =>
 (pr.load 17 true u135.2 t2_1.1).bind fun v137 =>
 pr.fin none u135.2 [v137, LV.nili])))))))
theorem F_ip4_Parse_eq (g : Call) (a0 : LV) : fnEv g c_ip4_Parse [a0] none = F_ip4_Parse g a0 := by kernel_rfl

/-- interpreter/interpreterref03.Parse -/
noncomputable def F_interpreterref03_Parse (g : Call) (a0 : LV) : Option (LV × Option LV) :=
 (pr.alloc (LV.agg [(LV.int .i64 0), (LV.int .i64 0), (LV.int .i64 0), (LV.int .i64 0), (LV.int .i64 0), (LV.bool false), (LV.bool false), (LV.bytes [0, 0, 0, 0]), (LV.bytes [0, 0, 0, 0]), (LV.str []), (LV.str [])]) 2 noSlots).bind fun t2_0 =>
 (pr.parts (LV.agg [(LV.int .i64 0), (LV.int .i64 0), (LV.int .i64 0), (LV.int .i64 0), (LV.int .i64 0), (LV.bool false), (LV.bool false), (LV.bytes [0, 0, 0, 0]), (LV.bytes [0, 0, 0, 0]), (LV.str []), (LV.str [])]) []).bind fun t10_2 =>
 (pr.alloc (LV.agg [(LV.int .i64 0), (LV.int .i64 0), (LV.int .i64 0), (LV.int .i64 0), (LV.int .i64 0), (LV.bool false), (LV.bool false), (LV.bytes [0, 0, 0, 0]), (LV.bytes [0, 0, 0, 0]), (LV.str []), (LV.str [])]) 4 t2_0.2).bind fun t4_3 =>
 (pr.store 17 true t4_3.2 t4_3.1 t10_2).bind fun u4 =>
 (pr.len true a0).bind fun t12_6 =>
 (pr.bin .lss t12_6 (LV.int .i64 20)).bind fun t13_7 =>
 condK t13_7 (
 (pr.load 17 true u4.2 t4_3.1).bind fun t14_8 =>
 (pr.store 17 true u4.2 t2_0.1 t14_8).bind fun u9 =>
 (pr.load 17 true u9.2 t2_0.1).bind fun v11 =>
 pr.fin none u9.2 [v11, (LV.int .i64 7)]) (
 (pr.idxStr a0 (LV.int .i64 0)).bind fun t16_13 =>
 (pr.conv .i64 t16_13).bind fun t17_14 =>
 (pr.bin .sub t17_14 (LV.int .i64 64)).bind fun t18_15 =>
 (pr.bin .mul (LV.int .i64 4) t18_15).bind fun t19_16 =>
 (pr.bin .lss t19_16 (LV.int .i64 20)).bind fun t21_19 =>
 (pr.guard t21_19 false).bind fun b21 =>
 (if b21 = true then some t19_16 else some LV.undef).bind fun t23_21 =>
 (pr.guard t21_19 false).bind fun b22 =>
 (if b22 = true then pr.bin .gtr t23_21 (LV.int .i64 60) else some LV.undef).bind fun t24_22 =>
 (pr.pick t21_19 (LV.bool true) t24_22).bind fun t25_23 =>
 condK t25_23 (
 (pr.load 17 true u4.2 t4_3.1).bind fun t26_24 =>
 (pr.store 17 true u4.2 t2_0.1 t26_24).bind fun u25 =>
 (pr.load 17 true u25.2 t2_0.1).bind fun v27 =>
 pr.fin none u25.2 [v27, (LV.int .i64 8)]) (
 (pr.len true a0).bind fun t28_29 =>
 (pr.bin .lss t28_29 t19_16).bind fun t30_31 =>
 condK t30_31 (
 (pr.load 17 true u4.2 t4_3.1).bind fun t31_32 =>
 (pr.store 17 true u4.2 t2_0.1 t31_32).bind fun u33 =>
 (pr.load 17 true u33.2 t2_0.1).bind fun v35 =>
 pr.fin none u33.2 [v35, (LV.int .i64 7)]) (
 (pr.slc 0 a0 none (some t19_16)).bind fun t34_38 =>
 (pr.call g id_interpreterref02_Of u4.2 [t34_38]).bind fun t35_39 =>
 (pr.bin .neq t35_39 (LV.int .i64 0)).bind fun t36_40 =>
 condK t36_40 (
 (pr.load 17 true u4.2 t4_3.1).bind fun t37_41 =>
 (pr.store 17 true u4.2 t2_0.1 t37_41).bind fun u42 =>
 (pr.load 17 true u42.2 t2_0.1).bind fun v44 =>
 pr.fin none u42.2 [v44, (LV.int .i64 9)]) (
 (pr.call g id_interpreterref03_number u4.2 [a0, (LV.int .i64 2)]).bind fun t39_46 =>
 (pr.bin .lss t39_46 t19_16).bind fun t42_50 =>
 condK t42_50 (
 (pr.load 17 true u4.2 t4_3.1).bind fun t43_51 =>
 (pr.store 17 true u4.2 t2_0.1 t43_51).bind fun u52 =>
 (pr.load 17 true u52.2 t2_0.1).bind fun v54 =>
 pr.fin none u52.2 [v54, (LV.int .i64 8)]) (
 (pr.len true a0).bind fun t45_56 =>
 (pr.bin .lss t45_56 t39_46).bind fun t47_58 =>
 condK t47_58 (
 (pr.load 17 true u4.2 t4_3.1).bind fun t48_59 =>
 (pr.store 17 true u4.2 t2_0.1 t48_59).bind fun u60 =>
 (pr.load 17 true u60.2 t2_0.1).bind fun v62 =>
 pr.fin none u60.2 [v62, (LV.int .i64 7)]) (
 (pr.call g id_interpreterref03_number u4.2 [a0, (LV.int .i64 6)]).bind fun t50_64 =>
 (pr.idxStr a0 (LV.int .i64 1)).bind fun t52_67 =>
 (pr.conv .i64 t52_67).bind fun t53_68 =>
 (pr.call g id_interpreterref03_number u4.2 [a0, (LV.int .i64 4)]).bind fun t55_70 =>
 (pr.idxStr a0 (LV.int .i64 8)).bind fun t57_72 =>
 (pr.conv .i64 t57_72).bind fun t58_73 =>
 (pr.idxStr a0 (LV.int .i64 9)).bind fun t60_75 =>
 (pr.conv .i64 t60_75).bind fun t61_76 =>
 (pr.bin .rem t50_64 (LV.int .i64 8192)).bind fun t63_78 =>
 (pr.bin .mul t63_78 (LV.int .i64 8)).bind fun t64_79 =>
 (pr.bin .quo t50_64 (LV.int .i64 16384)).bind fun t66_81 =>
 (pr.bin .rem t66_81 (LV.int .i64 2)).bind fun t67_82 =>
 (pr.bin .eql t67_82 (LV.int .i64 1)).bind fun t68_83 =>
 (pr.bin .quo t50_64 (LV.int .i64 8192)).bind fun t70_85 =>
 (pr.bin .rem t70_85 (LV.int .i64 2)).bind fun t71_86 =>
 (pr.bin .eql t71_86 (LV.int .i64 1)).bind fun t72_87 =>
 (pr.slc 0 a0 (some (LV.int .i64 20)) (some t19_16)).bind fun t75_90 =>
 (pr.slc 0 a0 (some t19_16) (some t39_46)).bind fun t79_94 =>
 (pr.parts (LV.agg [(LV.int .i64 0), (LV.int .i64 0), (LV.int .i64 0), (LV.int .i64 0), (LV.int .i64 0), (LV.bool false), (LV.bool false), (LV.bytes [0, 0, 0, 0]), (LV.bytes [0, 0, 0, 0]), (LV.str []), (LV.str [])]) [(0, t53_68), (1, t55_70), (2, t58_73), (3, t61_76), (4, t64_79), (5, t68_83), (6, t72_87), (9, t75_90), (10, t79_94)]).bind fun t80_95 =>
 (pr.alloc (LV.agg [(LV.int .i64 0), (LV.int .i64 0), (LV.int .i64 0), (LV.int .i64 0), (LV.int .i64 0), (LV.bool false), (LV.bool false), (LV.bytes [0, 0, 0, 0]), (LV.bytes [0, 0, 0, 0]), (LV.str []), (LV.str [])]) 8 u4.2).bind fun t8_96 =>
 (pr.store 17 true t8_96.2 t8_96.1 t80_95).bind fun u97 =>
 (whileW (fun q99 : List LV × Slots =>
 (pr.bin .lss (getL q99.1 0) (LV.int .i64 4)).bind fun t82_101 =>
 condK t82_101 (
 (pr.bin .add (LV.int .i64 12) (getL q99.1 0)).bind fun t88_105 =>
 (pr.idxStr a0 t88_105).bind fun t89_106 =>
 (pr.fieldAddr 7 7 t8_96.1).bind fun t90_107 =>
 (pr.idxAddr (some 4) 1 t90_107 (getL q99.1 0)).bind fun t91_108 =>
 (pr.store 1 false q99.2 t91_108 t89_106).bind fun u109 =>
 (pr.bin .add (LV.int .i64 16) (getL q99.1 0)).bind fun t95_113 =>
 (pr.idxStr a0 t95_113).bind fun t96_114 =>
 (pr.fieldAddr 8 11 t8_96.1).bind fun t97_115 =>
 (pr.idxAddr (some 4) 1 t97_115 (getL q99.1 0)).bind fun t98_116 =>
 (pr.store 1 false u109.2 t98_116 t96_114).bind fun u117 =>
 (pr.bin .add (getL q99.1 0) (LV.int .i64 1)).bind fun t84_119 =>
 pr.round u97.2 .normal [t84_119] u117.2) (
 pr.round u97.2 (.exit 0) [(getL q99.1 0)] q99.2)) ([(LV.int .i64 0)], u97.2)).bind fun r99 =>
 exIf r99.1 (.exit 0) (
 (pr.bin .geq t50_64 (LV.int .i64 32768)).bind fun t100_122 =>
 (pr.guard t100_122 false).bind fun b124 =>
 (if b124 = true then pr.load 17 true r99.2.2 t8_96.1 else some LV.undef).bind fun t102_124 =>
 (pr.guard t100_122 false).bind fun b125 =>
 (if b125 = true then pr.call g id_interpreterref03_Why r99.2.2 [t102_124] else some LV.undef).bind fun t103_125 =>
 (pr.guard t100_122 false).bind fun b126 =>
 (if b126 = true then pr.bin .neq t103_125 (LV.int .i64 0) else some LV.undef).bind fun t104_126 =>
 (pr.pick t100_122 (LV.bool true) t104_126).bind fun t105_127 =>
 condK t105_127 (
 (pr.load 17 true r99.2.2 t4_3.1).bind fun t106_128 =>
 (pr.store 17 true r99.2.2 t2_0.1 t106_128).bind fun u129 =>
 (pr.load 17 true u129.2 t2_0.1).bind fun v131 =>
 pr.fin none u129.2 [v131, (LV.int .i64 8)]) (
 (pr.load 17 true r99.2.2 t8_96.1).bind fun t107_132 =>
 (pr.store 17 true r99.2.2 t2_0.1 t107_132).bind fun u133 =>
 (pr.load 17 true u133.2 t2_0.1).bind fun v135 =>
 pr.fin none u133.2 [v135, (LV.int .i64 0)])) (none)))))))
theorem F_interpreterref03_Parse_eq (g : Call) (a0 : LV) : fnEv g c_interpreterref03_Parse [a0] none = F_interpreterref03_Parse g a0 := by kernel_rfl

/-- interpreter/interpreterref02.Of -/
noncomputable def F_interpreterref02_Of (g : Call) (a0 : LV) : Option (LV × Option LV) :=
 (pr.call g id_interpreterref02_Words noSlots [a0]).bind fun t4_2 =>
 (pr.call g id_interpreterref02_Total noSlots [t4_2]).bind fun t5_3 =>
 (pr.bin .sub (LV.int .i64 65535) t5_3).bind fun t6_4 =>
 pr.fin none noSlots [t6_4]
theorem F_interpreterref02_Of_eq (g : Call) (a0 : LV) : fnEv g c_interpreterref02_Of [a0] none = F_interpreterref02_Of g a0 := by kernel_rfl

/-- interpreter/sum.Right -/
noncomputable def F_sum_Right (g : Call) (a0 : LV) : Option (LV × Option LV) :=
 (pr.call g id_sum_Of noSlots [a0]).bind fun t4_2 =>
 (pr.bin .eql t4_2 (LV.int .i64 0)).bind fun t5_3 =>
 pr.fin none noSlots [t5_3]
theorem F_sum_Right_eq (g : Call) (a0 : LV) : fnEv g c_sum_Right [a0] none = F_sum_Right g a0 := by kernel_rfl

/-- interpreter/ip4.Routed -/
noncomputable def F_ip4_Routed (g : Call) (a0 : LV) : Option (LV × Option LV) :=
 (whileW (fun q3 : List LV × Slots =>
 (pr.bin .neq (getL q3.1 0) (LV.str [])).bind fun t6_5 =>
 (pr.guard t6_5 true).bind fun b7 =>
 (if b7 = true then some (getL q3.1 0) else some LV.undef).bind fun t8_7 =>
 (pr.guard t6_5 true).bind fun b8 =>
 (if b8 = true then pr.idxStr t8_7 (LV.int .i64 0) else some LV.undef).bind fun t9_8 =>
 (pr.guard t6_5 true).bind fun b9 =>
 (if b9 = true then pr.bin .neq t9_8 (LV.int .u8 0) else some LV.undef).bind fun t10_9 =>
 (pr.pick t6_5 t10_9 (LV.bool false)).bind fun t11_10 =>
 condK t11_10 (
 (pr.idxStr (getL q3.1 0) (LV.int .i64 0)).bind fun t13_12 =>
 (pr.bin .eql t13_12 (LV.int .u8 1)).bind fun t14_13 =>
 condK t14_13 (
 (pr.slc 0 (getL q3.1 0) (some (LV.int .i64 1)) none).bind fun t16_15 =>
 pr.round noSlots .normal [t16_15, (getL q3.1 1), (getL q3.1 2), (getL q3.1 3)] q3.2) (
 (pr.len true (getL q3.1 0)).bind fun t18_18 =>
 (pr.bin .lss t18_18 (LV.int .i64 2)).bind fun t19_19 =>
 (pr.guard t19_19 false).bind fun b21 =>
 (if b21 = true then some (getL q3.1 0) else some LV.undef).bind fun t21_21 =>
 (pr.guard t19_19 false).bind fun b22 =>
 (if b22 = true then pr.idxStr t21_21 (LV.int .i64 1) else some LV.undef).bind fun t22_22 =>
 (pr.guard t19_19 false).bind fun b23 =>
 (if b23 = true then pr.bin .lss t22_22 (LV.int .u8 2) else some LV.undef).bind fun t23_23 =>
 (pr.pick t19_19 (LV.bool true) t23_23).bind fun t24_24 =>
 (pr.guard t24_24 false).bind fun b26 =>
 (if b26 = true then some (getL q3.1 0) else some LV.undef).bind fun t26_26 =>
 (pr.guard t24_24 false).bind fun b27 =>
 (if b27 = true then pr.idxStr t26_26 (LV.int .i64 1) else some LV.undef).bind fun t27_27 =>
 (pr.guard t24_24 false).bind fun b28 =>
 (if b28 = true then pr.conv .i64 t27_27 else some LV.undef).bind fun t28_28 =>
 (pr.guard t24_24 false).bind fun b29 =>
 (if b29 = true then some (getL q3.1 0) else some LV.undef).bind fun t29_29 =>
 (pr.guard t24_24 false).bind fun b30 =>
 (if b30 = true then pr.len true t29_29 else some LV.undef).bind fun t30_30 =>
 (pr.guard t24_24 false).bind fun b31 =>
 (if b31 = true then pr.bin .gtr t28_28 t30_30 else some LV.undef).bind fun t31_31 =>
 (pr.pick t24_24 (LV.bool true) t31_31).bind fun t32_32 =>
 condK t32_32 (
 (pr.call g id_ip4_fault q3.2 [(LV.int .i64 8)]).bind fun t33_33 =>
 pr.round noSlots .ret [(getL q3.1 0), (LV.bool false), t33_33, (getL q3.1 3)] q3.2) (
 (pr.idxStr (getL q3.1 0) (LV.int .i64 0)).bind fun t35_37 =>
 (pr.bin .eql t35_37 (LV.int .u8 131)).bind fun t36_38 =>
 (pr.guard t36_38 false).bind fun b40 =>
 (if b40 = true then some (getL q3.1 0) else some LV.undef).bind fun t38_40 =>
 (pr.guard t36_38 false).bind fun b41 =>
 (if b41 = true then pr.idxStr t38_40 (LV.int .i64 0) else some LV.undef).bind fun t39_41 =>
 (pr.guard t36_38 false).bind fun b42 =>
 (if b42 = true then pr.bin .eql t39_41 (LV.int .u8 137) else some LV.undef).bind fun t40_42 =>
 (pr.pick t36_38 (LV.bool true) t40_42).bind fun t41_43 =>
 condK t41_43 (
 (pr.idxStr (getL q3.1 0) (LV.int .i64 1)).bind fun t43_45 =>
 (pr.bin .lss t43_45 (LV.int .u8 3)).bind fun t44_46 =>
 condK t44_46 (
 (pr.call g id_ip4_fault q3.2 [(LV.int .i64 8)]).bind fun t45_47 =>
 pr.round noSlots .ret [(getL q3.1 0), (LV.bool false), t45_47, (getL q3.1 3)] q3.2) (
 (pr.guard (getL q3.1 3) false).bind fun b52 =>
 (if b52 = true then some (getL q3.1 0) else some LV.undef).bind fun t48_52 =>
 (pr.guard (getL q3.1 3) false).bind fun b53 =>
 (if b53 = true then pr.idxStr t48_52 (LV.int .i64 2) else some LV.undef).bind fun t49_53 =>
 (pr.guard (getL q3.1 3) false).bind fun b54 =>
 (if b54 = true then some (getL q3.1 0) else some LV.undef).bind fun t50_54 =>
 (pr.guard (getL q3.1 3) false).bind fun b55 =>
 (if b55 = true then pr.idxStr t50_54 (LV.int .i64 1) else some LV.undef).bind fun t51_55 =>
 (pr.guard (getL q3.1 3) false).bind fun b56 =>
 (if b56 = true then pr.bin .leq t49_53 t51_55 else some LV.undef).bind fun t52_56 =>
 (pr.pick (getL q3.1 3) (LV.bool true) t52_56).bind fun t53_57 =>
 (pr.idxStr (getL q3.1 0) (LV.int .i64 1)).bind fun t56_61 =>
 (pr.slc 0 (getL q3.1 0) (some t56_61) none).bind fun t57_62 =>
 pr.round noSlots .normal [t57_62, (getL q3.1 1), (getL q3.1 2), t53_57] q3.2)) (
 (pr.idxStr (getL q3.1 0) (LV.int .i64 1)).bind fun t56_66 =>
 (pr.slc 0 (getL q3.1 0) (some t56_66) none).bind fun t57_67 =>
 pr.round noSlots .normal [t57_67, (getL q3.1 1), (getL q3.1 2), (getL q3.1 3)] q3.2)))) (
 pr.round noSlots (.exit 0) [(getL q3.1 0), (getL q3.1 1), (getL q3.1 2), (getL q3.1 3)] q3.2)) ([a0, (LV.bool false), LV.nili, (LV.bool false)], noSlots)).bind fun r3 =>
 exIf r3.1 (.exit 0) (
 pr.fin none r3.2.2 [(getL r3.2.1 3), LV.nili]) (exIf r3.1 .ret (
 pr.fin none r3.2.2 [(getL r3.2.1 1), (getL r3.2.1 2)]) (exIf r3.1 .ret (
 pr.fin none r3.2.2 [(getL r3.2.1 1), (getL r3.2.1 2)]) (none)))
theorem F_ip4_Routed_eq (g : Call) (a0 : LV) : fnEv g c_ip4_Routed [a0] none = F_ip4_Routed g a0 := by kernel_rfl

/-- interpreter/interpreterref03.Routed -/
noncomputable def F_interpreterref03_Routed (g : Call) (a0 : LV) : Option (LV × Option LV) :=
 (whileW (fun q4 : List LV × Slots =>
 (pr.len true a0).bind fun t8_7 =>
 (pr.bin .lss (getL q4.1 0) t8_7).bind fun t9_8 =>
 (pr.guard t9_8 true).bind fun b10 =>
 (if b10 = true then some a0 else some LV.undef).bind fun t11_10 =>
 (pr.guard t9_8 true).bind fun b11 =>
 (if b11 = true then some (getL q4.1 0) else some LV.undef).bind fun t12_11 =>
 (pr.guard t9_8 true).bind fun b12 =>
 (if b12 = true then pr.idxStr t11_10 t12_11 else some LV.undef).bind fun t13_12 =>
 (pr.guard t9_8 true).bind fun b13 =>
 (if b13 = true then pr.bin .neq t13_12 (LV.int .u8 0) else some LV.undef).bind fun t14_13 =>
 (pr.pick t9_8 t14_13 (LV.bool false)).bind fun t15_14 =>
 condK t15_14 (
 (pr.idxStr a0 (getL q4.1 0)).bind fun t18_17 =>
 (pr.bin .eql t18_17 (LV.int .u8 1)).bind fun t19_18 =>
 condK t19_18 (
 (pr.bin .add (getL q4.1 0) (LV.int .i64 1)).bind fun t21_20 =>
 pr.round noSlots .normal [t21_20, (getL q4.1 1), (getL q4.1 2), (getL q4.1 3)] q4.2) (
 (pr.bin .add (getL q4.1 0) (LV.int .i64 1)).bind fun t23_23 =>
 (pr.len true a0).bind fun t25_25 =>
 (pr.bin .geq t23_23 t25_25).bind fun t26_26 =>
 (pr.guard t26_26 false).bind fun b28 =>
 (if b28 = true then some a0 else some LV.undef).bind fun t28_28 =>
 (pr.guard t26_26 false).bind fun b29 =>
 (if b29 = true then some (getL q4.1 0) else some LV.undef).bind fun t29_29 =>
 (pr.guard t26_26 false).bind fun b30 =>
 (if b30 = true then pr.bin .add t29_29 (LV.int .i64 1) else some LV.undef).bind fun t30_30 =>
 (pr.guard t26_26 false).bind fun b31 =>
 (if b31 = true then pr.idxStr t28_28 t30_30 else some LV.undef).bind fun t31_31 =>
 (pr.guard t26_26 false).bind fun b32 =>
 (if b32 = true then pr.bin .lss t31_31 (LV.int .u8 2) else some LV.undef).bind fun t32_32 =>
 (pr.pick t26_26 (LV.bool true) t32_32).bind fun t33_33 =>
 (pr.guard t33_33 false).bind fun b35 =>
 (if b35 = true then some (getL q4.1 0) else some LV.undef).bind fun t35_35 =>
 (pr.guard t33_33 false).bind fun b36 =>
 (if b36 = true then some a0 else some LV.undef).bind fun t36_36 =>
 (pr.guard t33_33 false).bind fun b37 =>
 (if b37 = true then some (getL q4.1 0) else some LV.undef).bind fun t37_37 =>
 (pr.guard t33_33 false).bind fun b38 =>
 (if b38 = true then pr.bin .add t37_37 (LV.int .i64 1) else some LV.undef).bind fun t38_38 =>
 (pr.guard t33_33 false).bind fun b39 =>
 (if b39 = true then pr.idxStr t36_36 t38_38 else some LV.undef).bind fun t39_39 =>
 (pr.guard t33_33 false).bind fun b40 =>
 (if b40 = true then pr.conv .i64 t39_39 else some LV.undef).bind fun t40_40 =>
 (pr.guard t33_33 false).bind fun b41 =>
 (if b41 = true then pr.bin .add t35_35 t40_40 else some LV.undef).bind fun t41_41 =>
 (pr.guard t33_33 false).bind fun b42 =>
 (if b42 = true then some a0 else some LV.undef).bind fun t42_42 =>
 (pr.guard t33_33 false).bind fun b43 =>
 (if b43 = true then pr.len true t42_42 else some LV.undef).bind fun t43_43 =>
 (pr.guard t33_33 false).bind fun b44 =>
 (if b44 = true then pr.bin .gtr t41_41 t43_43 else some LV.undef).bind fun t44_44 =>
 (pr.pick t33_33 (LV.bool true) t44_44).bind fun t45_45 =>
 condK t45_45 (
 pr.round noSlots .ret [(getL q4.1 0), (LV.bool false), (LV.int .i64 8), (getL q4.1 3)] q4.2) (
 (pr.idxStr a0 (getL q4.1 0)).bind fun t48_50 =>
 (pr.bin .eql t48_50 (LV.int .u8 131)).bind fun t49_51 =>
 (pr.guard t49_51 false).bind fun b53 =>
 (if b53 = true then some a0 else some LV.undef).bind fun t51_53 =>
 (pr.guard t49_51 false).bind fun b54 =>
 (if b54 = true then some (getL q4.1 0) else some LV.undef).bind fun t52_54 =>
 (pr.guard t49_51 false).bind fun b55 =>
 (if b55 = true then pr.idxStr t51_53 t52_54 else some LV.undef).bind fun t53_55 =>
 (pr.guard t49_51 false).bind fun b56 =>
 (if b56 = true then pr.bin .eql t53_55 (LV.int .u8 137) else some LV.undef).bind fun t54_56 =>
 (pr.pick t49_51 (LV.bool true) t54_56).bind fun t55_57 =>
 condK t55_57 (
 (pr.bin .add (getL q4.1 0) (LV.int .i64 1)).bind fun t58_60 =>
 (pr.idxStr a0 t58_60).bind fun t59_61 =>
 (pr.bin .lss t59_61 (LV.int .u8 3)).bind fun t60_62 =>
 condK t60_62 (
 pr.round noSlots .ret [(getL q4.1 0), (LV.bool false), (LV.int .i64 8), (getL q4.1 3)] q4.2) (
 (pr.bin .add (getL q4.1 0) (LV.int .i64 2)).bind fun t63_67 =>
 (pr.idxStr a0 t63_67).bind fun t64_68 =>
 (pr.bin .add (getL q4.1 0) (LV.int .i64 1)).bind fun t67_71 =>
 (pr.idxStr a0 t67_71).bind fun t68_72 =>
 (pr.bin .leq t64_68 t68_72).bind fun t69_73 =>
 condK t69_73 (
 (pr.bin .add (getL q4.1 0) (LV.int .i64 1)).bind fun t73_78 =>
 (pr.idxStr a0 t73_78).bind fun t74_79 =>
 (pr.conv .i64 t74_79).bind fun t75_80 =>
 (pr.bin .add (getL q4.1 0) t75_80).bind fun t76_81 =>
 pr.round noSlots .normal [t76_81, (getL q4.1 1), (getL q4.1 2), (LV.bool true)] q4.2) (
 (pr.bin .add (getL q4.1 0) (LV.int .i64 1)).bind fun t73_86 =>
 (pr.idxStr a0 t73_86).bind fun t74_87 =>
 (pr.conv .i64 t74_87).bind fun t75_88 =>
 (pr.bin .add (getL q4.1 0) t75_88).bind fun t76_89 =>
 pr.round noSlots .normal [t76_89, (getL q4.1 1), (getL q4.1 2), (getL q4.1 3)] q4.2))) (
 (pr.bin .add (getL q4.1 0) (LV.int .i64 1)).bind fun t73_94 =>
 (pr.idxStr a0 t73_94).bind fun t74_95 =>
 (pr.conv .i64 t74_95).bind fun t75_96 =>
 (pr.bin .add (getL q4.1 0) t75_96).bind fun t76_97 =>
 pr.round noSlots .normal [t76_97, (getL q4.1 1), (getL q4.1 2), (getL q4.1 3)] q4.2)))) (
 pr.round noSlots (.exit 0) [(getL q4.1 0), (getL q4.1 1), (getL q4.1 2), (getL q4.1 3)] q4.2)) ([(LV.int .i64 0), (LV.bool false), (LV.int .i64 0), (LV.bool false)], noSlots)).bind fun r4 =>
 exIf r4.1 (.exit 0) (
 pr.fin none r4.2.2 [(getL r4.2.1 3), (LV.int .i64 0)]) (exIf r4.1 .ret (
 pr.fin none r4.2.2 [(getL r4.2.1 1), (getL r4.2.1 2)]) (exIf r4.1 .ret (
 pr.fin none r4.2.2 [(getL r4.2.1 1), (getL r4.2.1 2)]) (none)))
theorem F_interpreterref03_Routed_eq (g : Call) (a0 : LV) : fnEv g c_interpreterref03_Routed [a0] none = F_interpreterref03_Routed g a0 := by kernel_rfl

/-- interpreter/interpreterlaw03.example -/
noncomputable def F_interpreterlaw03_example (g : Call) : Option (LV × Option LV) :=
 (pr.alloc (LV.agg [(LV.int .i64 0), (LV.int .i64 0), (LV.int .i64 0), (LV.int .i64 0), (LV.int .i64 0), (LV.bool false), (LV.bool false), (LV.bytes [0, 0, 0, 0]), (LV.bytes [0, 0, 0, 0]), (LV.str []), (LV.str [])]) 0 noSlots).bind fun t0_0 =>
 (pr.parts (LV.bytes [0, 0, 0, 0]) [(0, (LV.int .u8 10)), (1, (LV.int .u8 0)), (2, (LV.int .u8 0)), (3, (LV.int .u8 1))]).bind fun t1_1 =>
 (pr.parts (LV.bytes [0, 0, 0, 0]) [(0, (LV.int .u8 10)), (1, (LV.int .u8 0)), (2, (LV.int .u8 0)), (3, (LV.int .u8 2))]).bind fun t2_2 =>
 (pr.parts (LV.agg [(LV.int .i64 0), (LV.int .i64 0), (LV.int .i64 0), (LV.int .i64 0), (LV.int .i64 0), (LV.bool false), (LV.bool false), (LV.bytes [0, 0, 0, 0]), (LV.bytes [0, 0, 0, 0]), (LV.str []), (LV.str [])]) [(1, (LV.int .i64 1)), (2, (LV.int .i64 64)), (3, (LV.int .i64 17)), (7, t1_1), (8, t2_2), (10, (LV.str [104, 105]))]).bind fun t3_3 =>
 (pr.store 17 true t0_0.2 t0_0.1 t3_3).bind fun u4 =>
 (pr.load 17 true u4.2 t0_0.1).bind fun v5 =>
 pr.fin none u4.2 [v5]
theorem F_interpreterlaw03_example_eq (g : Call) : fnEv g c_interpreterlaw03_example [] none = F_interpreterlaw03_example g := by kernel_rfl

/-- interpreter/ip4.why -/
noncomputable def F_ip4_why (g : Call) (a0 : LV) : Option (LV × Option LV) :=
 (pr.box a0).bind fun t1_0 =>
 (pr.fieldAddr 0 0 t1_0).bind fun t4_2 =>
 (pr.load 1 false noSlots t4_2).bind fun t5_3 =>
 (pr.fieldAddr 2 2 t1_0).bind fun t6_4 =>
 (pr.load 1 false noSlots t6_4).bind fun t7_5 =>
 (pr.fieldAddr 3 3 t1_0).bind fun t8_6 =>
 (pr.load 1 false noSlots t8_6).bind fun t9_7 =>
 (pr.bsl (LV.int .i64 0) 3 [(0, t5_3), (1, t7_5), (2, t9_7)]).bind fun t10_8 =>
 (pr.call g id_ip4_byteful noSlots [t10_8]).bind fun t11_9 =>
 (pr.un .not t11_9).bind fun t12_10 =>
 (pr.guard t12_10 false).bind fun b12 =>
 (if b12 = true then pr.fieldAddr 1 1 t1_0 else some LV.undef).bind fun t14_12 =>
 (pr.guard t12_10 false).bind fun b13 =>
 (if b13 = true then pr.load 1 false noSlots t14_12 else some LV.undef).bind fun t15_13 =>
 (pr.guard t12_10 false).bind fun b14 =>
 (if b14 = true then pr.bin .lss t15_13 (LV.int .i64 0) else some LV.undef).bind fun t16_14 =>
 (pr.pick t12_10 (LV.bool true) t16_14).bind fun t17_15 =>
 (pr.guard t17_15 false).bind fun b17 =>
 (if b17 = true then pr.fieldAddr 1 1 t1_0 else some LV.undef).bind fun t19_17 =>
 (pr.guard t17_15 false).bind fun b18 =>
 (if b18 = true then pr.load 1 false noSlots t19_17 else some LV.undef).bind fun t20_18 =>
 (pr.guard t17_15 false).bind fun b19 =>
 (if b19 = true then pr.bin .gtr t20_18 (LV.int .i64 65535) else some LV.undef).bind fun t21_19 =>
 (pr.pick t17_15 (LV.bool true) t21_19).bind fun t22_20 =>
 (pr.guard t22_20 false).bind fun b22 =>
 (if b22 = true then pr.fieldAddr 4 4 t1_0 else some LV.undef).bind fun t24_22 =>
 (pr.guard t22_20 false).bind fun b23 =>
 (if b23 = true then pr.load 1 false noSlots t24_22 else some LV.undef).bind fun t25_23 =>
 (pr.guard t22_20 false).bind fun b24 =>
 (if b24 = true then pr.bin .lss t25_23 (LV.int .i64 0) else some LV.undef).bind fun t26_24 =>
 (pr.pick t22_20 (LV.bool true) t26_24).bind fun t27_25 =>
 (pr.guard t27_25 false).bind fun b27 =>
 (if b27 = true then pr.fieldAddr 4 4 t1_0 else some LV.undef).bind fun t29_27 =>
 (pr.guard t27_25 false).bind fun b28 =>
 (if b28 = true then pr.load 1 false noSlots t29_27 else some LV.undef).bind fun t30_28 =>
 (pr.guard t27_25 false).bind fun b29 =>
 (if b29 = true then pr.bin .gtr t30_28 (LV.int .i64 65528) else some LV.undef).bind fun t31_29 =>
 (pr.pick t27_25 (LV.bool true) t31_29).bind fun t32_30 =>
 (pr.guard t32_30 false).bind fun b32 =>
 (if b32 = true then pr.fieldAddr 4 4 t1_0 else some LV.undef).bind fun t34_32 =>
 (pr.guard t32_30 false).bind fun b33 =>
 (if b33 = true then pr.load 1 false noSlots t34_32 else some LV.undef).bind fun t35_33 =>
 (pr.guard t32_30 false).bind fun b34 =>
 (if b34 = true then pr.bin .rem t35_33 (LV.int .i64 8) else some LV.undef).bind fun t36_34 =>
 (pr.guard t32_30 false).bind fun b35 =>
 (if b35 = true then pr.bin .neq t36_34 (LV.int .i64 0) else some LV.undef).bind fun t37_35 =>
 (pr.pick t32_30 (LV.bool true) t37_35).bind fun t38_36 =>
 condK t38_36 (
 pr.fin none noSlots [(LV.int .i64 13)]) (
 (pr.fieldAddr 9 15 t1_0).bind fun t40_39 =>
 (pr.load 1 false noSlots t40_39).bind fun t41_40 =>
 (pr.len true t41_40).bind fun t42_41 =>
 (pr.bin .gtr t42_41 (LV.int .i64 40)).bind fun t43_42 =>
 (pr.guard t43_42 false).bind fun b44 =>
 (if b44 = true then pr.fieldAddr 9 15 t1_0 else some LV.undef).bind fun t45_44 =>
 (pr.guard t43_42 false).bind fun b45 =>
 (if b45 = true then pr.load 1 false noSlots t45_44 else some LV.undef).bind fun t46_45 =>
 (pr.guard t43_42 false).bind fun b46 =>
 (if b46 = true then pr.len true t46_45 else some LV.undef).bind fun t47_46 =>
 (pr.guard t43_42 false).bind fun b47 =>
 (if b47 = true then pr.bin .rem t47_46 (LV.int .i64 4) else some LV.undef).bind fun t48_47 =>
 (pr.guard t43_42 false).bind fun b48 =>
 (if b48 = true then pr.bin .neq t48_47 (LV.int .i64 0) else some LV.undef).bind fun t49_48 =>
 (pr.pick t43_42 (LV.bool true) t49_48).bind fun t50_49 =>
 (pr.guard t50_49 false).bind fun b51 =>
 (if b51 = true then pr.fieldAddr 6 6 t1_0 else some LV.undef).bind fun t52_51 =>
 (pr.guard t50_49 false).bind fun b52 =>
 (if b52 = true then pr.load 1 false noSlots t52_51 else some LV.undef).bind fun t53_52 =>
 (pr.guard t50_49 false).bind fun b53 =>
 (if b53 = true then some t53_52 else some LV.undef).bind fun t54_53 =>
 (pr.guard t54_53 true).bind fun b54 =>
 (if b54 = true then pr.fieldAddr 10 16 t1_0 else some LV.undef).bind fun t55_54 =>
 (pr.guard t54_53 true).bind fun b55 =>
 (if b55 = true then pr.load 1 false noSlots t55_54 else some LV.undef).bind fun t56_55 =>
 (pr.guard t54_53 true).bind fun b56 =>
 (if b56 = true then pr.bin .eql t56_55 (LV.str []) else some LV.undef).bind fun t57_56 =>
 (pr.guard t54_53 true).bind fun b57 =>
 (if b57 = true then some t57_56 else some LV.undef).bind fun t58_57 =>
 (pr.guard t58_57 false).bind fun b58 =>
 (if b58 = true then pr.fieldAddr 10 16 t1_0 else some LV.undef).bind fun t59_58 =>
 (pr.guard t58_57 false).bind fun b59 =>
 (if b59 = true then pr.load 1 false noSlots t59_58 else some LV.undef).bind fun t60_59 =>
 (pr.guard t58_57 false).bind fun b60 =>
 (if b60 = true then pr.len true t60_59 else some LV.undef).bind fun t61_60 =>
 (pr.guard t58_57 false).bind fun b61 =>
 (if b61 = true then pr.bin .rem t61_60 (LV.int .i64 8) else some LV.undef).bind fun t62_61 =>
 (pr.guard t58_57 false).bind fun b62 =>
 (if b62 = true then pr.bin .neq t62_61 (LV.int .i64 0) else some LV.undef).bind fun t63_62 =>
 (pr.guard t54_53 true).bind fun b63 =>
 (if b63 = true then pr.pick t58_57 (LV.bool true) t63_62 else some LV.undef).bind fun t64_63 =>
 (pr.guard t50_49 false).bind fun b64 =>
 (if b64 = true then pr.pick t54_53 t64_63 (LV.bool false) else some LV.undef).bind fun t65_64 =>
 (pr.pick t50_49 (LV.bool true) t65_64).bind fun t66_65 =>
 condK t66_65 (
 pr.fin none noSlots [(LV.int .i64 8)]) (
 (pr.fieldAddr 10 16 t1_0).bind fun t68_68 =>
 (pr.load 1 false noSlots t68_68).bind fun t69_69 =>
 (pr.len true t69_69).bind fun t70_70 =>
 (pr.fieldAddr 9 15 t1_0).bind fun t71_71 =>
 (pr.load 1 false noSlots t71_71).bind fun t72_72 =>
 (pr.len true t72_72).bind fun t73_73 =>
 (pr.bin .sub (LV.int .i64 65515) t73_73).bind fun t74_74 =>
 (pr.fieldAddr 4 4 t1_0).bind fun t75_75 =>
 (pr.load 1 false noSlots t75_75).bind fun t76_76 =>
 (pr.bin .sub t74_74 t76_76).bind fun t77_77 =>
 (pr.bin .gtr t70_70 t77_77).bind fun t78_78 =>
 condK t78_78 (
 pr.fin none noSlots [(LV.int .i64 3)]) (
 pr.fin none noSlots [(LV.int .i64 0)])))
theorem F_ip4_why_eq (g : Call) (a0 : LV) : fnEv g c_ip4_why [a0] none = F_ip4_why g a0 := by kernel_rfl

/-- interpreter/ip4.fault -/
noncomputable def F_ip4_fault (g : Call) (a0 : LV) : Option (LV × Option LV) :=
 (pr.parts (LV.agg [(LV.int .i64 0), (LV.int .i64 0)]) [(0, a0)]).bind fun t4_2 =>
 (pr.box t4_2).bind fun t5_3 =>
 (pr.iface ty_ptr_num_Fault t5_3).bind fun t6_4 =>
 pr.fin none noSlots [t6_4]
theorem F_ip4_fault_eq (g : Call) (a0 : LV) : fnEv g c_ip4_fault [a0] none = F_ip4_fault g a0 := by kernel_rfl

/-- interpreter/ip4.big -/
noncomputable def F_ip4_big (g : Call) (a0 : LV) (a1 : LV) : Option (LV × Option LV) :=
 (pr.call g id_num_Big noSlots [a0, a1]).bind fun t10_3 =>
 (pr.extract t10_3 0).bind fun t11_5 =>
 (pr.extract t10_3 1).bind fun t12_6 =>
 pr.fin none noSlots [t11_5]
theorem F_ip4_big_eq (g : Call) (a0 : LV) (a1 : LV) : fnEv g c_ip4_big [a0, a1] none = F_ip4_big g a0 a1 := by kernel_rfl

/-- interpreter/sum.Of -/
noncomputable def F_sum_Of (g : Call) (a0 : LV) : Option (LV × Option LV) :=
 (pr.len false a0).bind fun t8_4 =>
 (whileW (fun q6 : List LV × Slots =>
 (pr.bin .lss (getL q6.1 2) t8_4).bind fun t10_7 =>
 condK t10_7 (
 (pr.idxAddr none 1 a0 (getL q6.1 2)).bind fun t11_8 =>
 (pr.load 1 false q6.2 t11_8).bind fun t12_9 =>
 (pr.call g id_sum_add q6.2 [(getL q6.1 0), (getL q6.1 1), t12_9, (LV.int .u8 0)]).bind fun t16_14 =>
 (pr.call g id_sum_fold q6.2 [t16_14]).bind fun t17_15 =>
 (pr.len true t12_9).bind fun t20_19 =>
 (pr.bin .add (getL q6.1 1) t20_19).bind fun t21_20 =>
 (pr.bin .add (getL q6.1 2) (LV.int .i64 1)).bind fun t22_22 =>
 pr.round noSlots .normal [t17_15, t21_20, t22_22] q6.2) (
 pr.round noSlots (.exit 0) [(getL q6.1 0), (getL q6.1 1), (getL q6.1 2)] q6.2)) ([(LV.int .i64 0), (LV.int .i64 0), (LV.int .i64 0)], noSlots)).bind fun r6 =>
 exIf r6.1 (.exit 0) (
 (pr.bin .sub (LV.int .i64 65535) (getL r6.2.1 0)).bind fun t24_25 =>
 pr.fin none r6.2.2 [t24_25]) (none)
theorem F_sum_Of_eq (g : Call) (a0 : LV) : fnEv g c_sum_Of [a0] none = F_sum_Of g a0 := by kernel_rfl

/-- interpreter/interpreterref03.Why -/
noncomputable def F_interpreterref03_Why (g : Call) (a0 : LV) : Option (LV × Option LV) :=
 (pr.box a0).bind fun t1_0 =>
 (pr.fieldAddr 0 0 t1_0).bind fun t3_2 =>
 (pr.load 1 false noSlots t3_2).bind fun t4_3 =>
 (pr.call g id_interpreterref03_within noSlots [t4_3, (LV.int .i64 255)]).bind fun t5_4 =>
 (pr.un .not t5_4).bind fun t6_5 =>
 (pr.guard t6_5 false).bind fun b7 =>
 (if b7 = true then pr.fieldAddr 2 2 t1_0 else some LV.undef).bind fun t8_7 =>
 (pr.guard t6_5 false).bind fun b8 =>
 (if b8 = true then pr.load 1 false noSlots t8_7 else some LV.undef).bind fun t9_8 =>
 (pr.guard t6_5 false).bind fun b9 =>
 (if b9 = true then pr.call g id_interpreterref03_within noSlots [t9_8, (LV.int .i64 255)] else some LV.undef).bind fun t10_9 =>
 (pr.guard t6_5 false).bind fun b10 =>
 (if b10 = true then pr.un .not t10_9 else some LV.undef).bind fun t11_10 =>
 (pr.pick t6_5 (LV.bool true) t11_10).bind fun t12_11 =>
 (pr.guard t12_11 false).bind fun b13 =>
 (if b13 = true then pr.fieldAddr 3 3 t1_0 else some LV.undef).bind fun t14_13 =>
 (pr.guard t12_11 false).bind fun b14 =>
 (if b14 = true then pr.load 1 false noSlots t14_13 else some LV.undef).bind fun t15_14 =>
 (pr.guard t12_11 false).bind fun b15 =>
 (if b15 = true then pr.call g id_interpreterref03_within noSlots [t15_14, (LV.int .i64 255)] else some LV.undef).bind fun t16_15 =>
 (pr.guard t12_11 false).bind fun b16 =>
 (if b16 = true then pr.un .not t16_15 else some LV.undef).bind fun t17_16 =>
 (pr.pick t12_11 (LV.bool true) t17_16).bind fun t18_17 =>
 (pr.guard t18_17 false).bind fun b19 =>
 (if b19 = true then pr.fieldAddr 1 1 t1_0 else some LV.undef).bind fun t20_19 =>
 (pr.guard t18_17 false).bind fun b20 =>
 (if b20 = true then pr.load 1 false noSlots t20_19 else some LV.undef).bind fun t21_20 =>
 (pr.guard t18_17 false).bind fun b21 =>
 (if b21 = true then pr.call g id_interpreterref03_within noSlots [t21_20, (LV.int .i64 65535)] else some LV.undef).bind fun t22_21 =>
 (pr.guard t18_17 false).bind fun b22 =>
 (if b22 = true then pr.un .not t22_21 else some LV.undef).bind fun t23_22 =>
 (pr.pick t18_17 (LV.bool true) t23_22).bind fun t24_23 =>
 (pr.guard t24_23 false).bind fun b25 =>
 (if b25 = true then pr.fieldAddr 4 4 t1_0 else some LV.undef).bind fun t26_25 =>
 (pr.guard t24_23 false).bind fun b26 =>
 (if b26 = true then pr.load 1 false noSlots t26_25 else some LV.undef).bind fun t27_26 =>
 (pr.guard t24_23 false).bind fun b27 =>
 (if b27 = true then pr.call g id_interpreterref03_within noSlots [t27_26, (LV.int .i64 65528)] else some LV.undef).bind fun t28_27 =>
 (pr.guard t24_23 false).bind fun b28 =>
 (if b28 = true then pr.un .not t28_27 else some LV.undef).bind fun t29_28 =>
 (pr.pick t24_23 (LV.bool true) t29_28).bind fun t30_29 =>
 (pr.guard t30_29 false).bind fun b31 =>
 (if b31 = true then pr.fieldAddr 4 4 t1_0 else some LV.undef).bind fun t32_31 =>
 (pr.guard t30_29 false).bind fun b32 =>
 (if b32 = true then pr.load 1 false noSlots t32_31 else some LV.undef).bind fun t33_32 =>
 (pr.guard t30_29 false).bind fun b33 =>
 (if b33 = true then pr.bin .rem t33_32 (LV.int .i64 8) else some LV.undef).bind fun t34_33 =>
 (pr.guard t30_29 false).bind fun b34 =>
 (if b34 = true then pr.bin .neq t34_33 (LV.int .i64 0) else some LV.undef).bind fun t35_34 =>
 (pr.pick t30_29 (LV.bool true) t35_34).bind fun t36_35 =>
 condK t36_35 (
 pr.fin none noSlots [(LV.int .i64 13)]) (
 (pr.fieldAddr 9 15 t1_0).bind fun t37_37 =>
 (pr.load 1 false noSlots t37_37).bind fun t38_38 =>
 (pr.len true t38_38).bind fun t39_39 =>
 (pr.bin .gtr t39_39 (LV.int .i64 40)).bind fun t40_40 =>
 (pr.guard t40_40 false).bind fun b42 =>
 (if b42 = true then pr.fieldAddr 9 15 t1_0 else some LV.undef).bind fun t42_42 =>
 (pr.guard t40_40 false).bind fun b43 =>
 (if b43 = true then pr.load 1 false noSlots t42_42 else some LV.undef).bind fun t43_43 =>
 (pr.guard t40_40 false).bind fun b44 =>
 (if b44 = true then pr.len true t43_43 else some LV.undef).bind fun t44_44 =>
 (pr.guard t40_40 false).bind fun b45 =>
 (if b45 = true then pr.bin .rem t44_44 (LV.int .i64 4) else some LV.undef).bind fun t45_45 =>
 (pr.guard t40_40 false).bind fun b46 =>
 (if b46 = true then pr.bin .neq t45_45 (LV.int .i64 0) else some LV.undef).bind fun t46_46 =>
 (pr.pick t40_40 (LV.bool true) t46_46).bind fun t47_47 =>
 condK t47_47 (
 pr.fin none noSlots [(LV.int .i64 8)]) (
 (pr.fieldAddr 6 6 t1_0).bind fun t48_49 =>
 (pr.load 1 false noSlots t48_49).bind fun t49_50 =>
 (pr.guard t49_50 true).bind fun b52 =>
 (if b52 = true then pr.fieldAddr 10 16 t1_0 else some LV.undef).bind fun t51_52 =>
 (pr.guard t49_50 true).bind fun b53 =>
 (if b53 = true then pr.load 1 false noSlots t51_52 else some LV.undef).bind fun t52_53 =>
 (pr.guard t49_50 true).bind fun b54 =>
 (if b54 = true then pr.len true t52_53 else some LV.undef).bind fun t53_54 =>
 (pr.guard t49_50 true).bind fun b55 =>
 (if b55 = true then pr.bin .eql t53_54 (LV.int .i64 0) else some LV.undef).bind fun t54_55 =>
 (pr.guard t49_50 true).bind fun b56 =>
 (if b56 = true then some t54_55 else some LV.undef).bind fun t55_56 =>
 (pr.guard t55_56 false).bind fun b57 =>
 (if b57 = true then pr.fieldAddr 10 16 t1_0 else some LV.undef).bind fun t56_57 =>
 (pr.guard t55_56 false).bind fun b58 =>
 (if b58 = true then pr.load 1 false noSlots t56_57 else some LV.undef).bind fun t57_58 =>
 (pr.guard t55_56 false).bind fun b59 =>
 (if b59 = true then pr.len true t57_58 else some LV.undef).bind fun t58_59 =>
 (pr.guard t55_56 false).bind fun b60 =>
 (if b60 = true then pr.bin .rem t58_59 (LV.int .i64 8) else some LV.undef).bind fun t59_60 =>
 (pr.guard t55_56 false).bind fun b61 =>
 (if b61 = true then pr.bin .neq t59_60 (LV.int .i64 0) else some LV.undef).bind fun t60_61 =>
 (pr.guard t49_50 true).bind fun b62 =>
 (if b62 = true then pr.pick t55_56 (LV.bool true) t60_61 else some LV.undef).bind fun t61_62 =>
 (pr.pick t49_50 t61_62 (LV.bool false)).bind fun t62_63 =>
 condK t62_63 (
 pr.fin none noSlots [(LV.int .i64 8)]) (
 (pr.fieldAddr 9 15 t1_0).bind fun t63_65 =>
 (pr.load 1 false noSlots t63_65).bind fun t64_66 =>
 (pr.len true t64_66).bind fun t65_67 =>
 (pr.bin .add (LV.int .i64 20) t65_67).bind fun t66_68 =>
 (pr.fieldAddr 4 4 t1_0).bind fun t67_69 =>
 (pr.load 1 false noSlots t67_69).bind fun t68_70 =>
 (pr.bin .add t66_68 t68_70).bind fun t69_71 =>
 (pr.fieldAddr 10 16 t1_0).bind fun t70_72 =>
 (pr.load 1 false noSlots t70_72).bind fun t71_73 =>
 (pr.len true t71_73).bind fun t72_74 =>
 (pr.bin .add t69_71 t72_74).bind fun t73_75 =>
 (pr.bin .gtr t73_75 (LV.int .i64 65535)).bind fun t74_76 =>
 condK t74_76 (
 pr.fin none noSlots [(LV.int .i64 3)]) (
 pr.fin none noSlots [(LV.int .i64 0)]))))
theorem F_interpreterref03_Why_eq (g : Call) (a0 : LV) : fnEv g c_interpreterref03_Why [a0] none = F_interpreterref03_Why g a0 := by kernel_rfl

/-- interpreter/ip4.Parse$1 -/
noncomputable def F_ip4_Parse_1 (g : Call) (a0 : LV) (a1 : LV) : Option (LV × Option LV) :=
 (pr.load 1 false noSlots a1).bind fun t4_1 =>
 (pr.idxStr t4_1 a0).bind fun t6_3 =>
 (pr.conv .i64 t6_3).bind fun t7_4 =>
 (pr.bin .shl t7_4 (LV.int .u64 8)).bind fun t8_5 =>
 (pr.load 1 false noSlots a1).bind fun t9_6 =>
 (pr.bin .add a0 (LV.int .i64 1)).bind fun t11_8 =>
 (pr.idxStr t9_6 t11_8).bind fun t12_9 =>
 (pr.conv .i64 t12_9).bind fun t13_10 =>
 (pr.bin .or t8_5 t13_10).bind fun t14_11 =>
 pr.fin none noSlots [t14_11]
theorem F_ip4_Parse_1_eq (g : Call) (a0 : LV) (a1 : LV) : fnEv g c_ip4_Parse_1 [a0, a1] none = F_ip4_Parse_1 g a0 a1 := by kernel_rfl

/-- interpreter/interpreterref03.number -/
noncomputable def F_interpreterref03_number (g : Call) (a0 : LV) (a1 : LV) : Option (LV × Option LV) :=
 (pr.parts (LV.agg [(LV.str []), (LV.int .i64 0), (LV.int .i64 0), (LV.int .i64 0)]) [(0, a0), (1, a1)]).bind fun t10_3 =>
 (pr.boxM t10_3 11 noSlots).bind fun t11_4 =>
 (pr.callRw g id_interpreterref01_Reader_Number t11_4.2 [t11_4.1, (LV.int .i64 2)]).bind fun t14_7 =>
 (pr.extract t14_7.1 0).bind fun t15_9 =>
 (pr.extract t14_7.1 1).bind fun t16_10 =>
 pr.fin none t14_7.2 [t15_9]
theorem F_interpreterref03_number_eq (g : Call) (a0 : LV) (a1 : LV) : fnEv g c_interpreterref03_number [a0, a1] none = F_interpreterref03_number g a0 a1 := by kernel_rfl

/-- interpreter/interpreterref02.Total -/
noncomputable def F_interpreterref02_Total (g : Call) (a0 : LV) : Option (LV × Option LV) :=
 (whileW (fun q3 : List LV × Slots =>
 (pr.len false a0).bind fun t7_6 =>
 (pr.bin .lss (getL q3.1 1) t7_6).bind fun t8_7 =>
 condK t8_7 (
 (pr.idxAddr none 1 a0 (getL q3.1 1)).bind fun t14_11 =>
 (pr.load 1 false q3.2 t14_11).bind fun t15_12 =>
 (pr.bin .add (getL q3.1 0) t15_12).bind fun t16_13 =>
 (pr.bin .add (getL q3.1 1) (LV.int .i64 1)).bind fun t10_16 =>
 pr.round noSlots .normal [t16_13, t10_16] q3.2) (
 pr.round noSlots (.exit 0) [(getL q3.1 0), (getL q3.1 1)] q3.2)) ([(LV.int .i64 0), (LV.int .i64 0)], noSlots)).bind fun r3 =>
 exIf r3.1 (.exit 0) (
 (whileW (fun q18 : List LV × Slots =>
 (pr.bin .gtr (getL q18.1 0) (LV.int .i64 65535)).bind fun t18_20 =>
 condK t18_20 (
 (pr.bin .quo (getL q18.1 0) (LV.int .i64 65536)).bind fun t20_22 =>
 (pr.bin .rem (getL q18.1 0) (LV.int .i64 65536)).bind fun t22_24 =>
 (pr.bin .add t20_22 t22_24).bind fun t23_25 =>
 pr.round r3.2.2 .normal [t23_25] q18.2) (
 pr.round r3.2.2 (.exit 2) [(getL q18.1 0)] q18.2)) ([(getL r3.2.1 0)], r3.2.2)).bind fun r18 =>
 exIf r18.1 (.exit 2) (
 pr.fin none r18.2.2 [(getL r18.2.1 0)]) (none)) (none)
theorem F_interpreterref02_Total_eq (g : Call) (a0 : LV) : fnEv g c_interpreterref02_Total [a0] none = F_interpreterref02_Total g a0 := by kernel_rfl

/-- interpreter/interpreterref02.Words -/
noncomputable def F_interpreterref02_Words (g : Call) (a0 : LV) : Option (LV × Option LV) :=
 (pr.nilT 1 3 noSlots).bind fun t3_1 =>
 (pr.len true a0).bind fun t6_3 =>
 (pr.bin .rem t6_3 (LV.int .i64 2)).bind fun t7_4 =>
 (pr.bin .eql t7_4 (LV.int .i64 1)).bind fun t8_5 =>
 condK t8_5 (
 (pr.bsl (LV.int .u8 0) 1 [(0, (LV.int .u8 0))]).bind fun t10_7 =>
 (pr.b2s t3_1.2 t10_7).bind fun t11_8 =>
 (pr.bin .add a0 t11_8).bind fun t12_9 =>
 (whileW (fun q12 : List LV × Slots =>
 (pr.len true t12_9).bind fun t15_15 =>
 (pr.bin .lss (getL q12.1 1) t15_15).bind fun t16_16 =>
 condK t16_16 (
 (pr.idxStr t12_9 (getL q12.1 1)).bind fun t22_20 =>
 (pr.conv .i64 t22_20).bind fun t23_21 =>
 (pr.bin .mul (LV.int .i64 256) t23_21).bind fun t24_22 =>
 (pr.bin .add (getL q12.1 1) (LV.int .i64 1)).bind fun t27_25 =>
 (pr.idxStr t12_9 t27_25).bind fun t28_26 =>
 (pr.conv .i64 t28_26).bind fun t29_27 =>
 (pr.bin .add t24_22 t29_27).bind fun t30_28 =>
 (pr.bsl (LV.int .i64 0) 1 [(0, t30_28)]).bind fun t31_29 =>
 (pr.append 1 8 32 q12.2 (getL q12.1 0) t31_29).bind fun t32_30 =>
 (pr.bin .add (getL q12.1 1) (LV.int .i64 2)).bind fun t18_33 =>
 pr.round t3_1.2 .normal [t32_30.1, t18_33] t32_30.2) (
 pr.round t3_1.2 (.exit 0) [(getL q12.1 0), (getL q12.1 1)] q12.2)) ([t3_1.1, (LV.int .i64 0)], t3_1.2)).bind fun r12 =>
 exIf r12.1 (.exit 0) (
 pr.fin none r12.2.2 [(getL r12.2.1 0)]) (none)) (
 (whileW (fun q38 : List LV × Slots =>
 (pr.len true a0).bind fun t15_41 =>
 (pr.bin .lss (getL q38.1 1) t15_41).bind fun t16_42 =>
 condK t16_42 (
 (pr.idxStr a0 (getL q38.1 1)).bind fun t22_46 =>
 (pr.conv .i64 t22_46).bind fun t23_47 =>
 (pr.bin .mul (LV.int .i64 256) t23_47).bind fun t24_48 =>
 (pr.bin .add (getL q38.1 1) (LV.int .i64 1)).bind fun t27_51 =>
 (pr.idxStr a0 t27_51).bind fun t28_52 =>
 (pr.conv .i64 t28_52).bind fun t29_53 =>
 (pr.bin .add t24_48 t29_53).bind fun t30_54 =>
 (pr.bsl (LV.int .i64 0) 1 [(0, t30_54)]).bind fun t31_55 =>
 (pr.append 1 8 32 q38.2 (getL q38.1 0) t31_55).bind fun t32_56 =>
 (pr.bin .add (getL q38.1 1) (LV.int .i64 2)).bind fun t18_59 =>
 pr.round t3_1.2 .normal [t32_56.1, t18_59] t32_56.2) (
 pr.round t3_1.2 (.exit 0) [(getL q38.1 0), (getL q38.1 1)] q38.2)) ([t3_1.1, (LV.int .i64 0)], t3_1.2)).bind fun r38 =>
 exIf r38.1 (.exit 0) (
 pr.fin none r38.2.2 [(getL r38.2.1 0)]) (none))
theorem F_interpreterref02_Words_eq (g : Call) (a0 : LV) : fnEv g c_interpreterref02_Words [a0] none = F_interpreterref02_Words g a0 := by kernel_rfl

/-- interpreter/ip4.byteful -/
noncomputable def F_ip4_byteful (g : Call) (a0 : LV) : Option (LV × Option LV) :=
 (pr.len false a0).bind fun t6_2 =>
 (whileW (fun q4 : List LV × Slots =>
 (pr.bin .lss (getL q4.1 1) t6_2).bind fun t8_5 =>
 condK t8_5 (
 (pr.idxAddr none 1 a0 (getL q4.1 1)).bind fun t9_6 =>
 (pr.load 1 false q4.2 t9_6).bind fun t10_7 =>
 (pr.bin .lss t10_7 (LV.int .i64 0)).bind fun t12_10 =>
 (pr.guard t12_10 false).bind fun b12 =>
 (if b12 = true then some t10_7 else some LV.undef).bind fun t14_12 =>
 (pr.guard t12_10 false).bind fun b13 =>
 (if b13 = true then pr.bin .gtr t14_12 (LV.int .i64 255) else some LV.undef).bind fun t15_13 =>
 (pr.pick t12_10 (LV.bool true) t15_13).bind fun t16_14 =>
 condK t16_14 (
 pr.round noSlots .ret [(LV.bool false), (getL q4.1 1)] q4.2) (
 (pr.bin .add (getL q4.1 1) (LV.int .i64 1)).bind fun t17_16 =>
 pr.round noSlots .normal [(getL q4.1 0), t17_16] q4.2)) (
 pr.round noSlots (.exit 0) [(getL q4.1 0), (getL q4.1 1)] q4.2)) ([(LV.bool false), (LV.int .i64 0)], noSlots)).bind fun r4 =>
 exIf r4.1 (.exit 0) (
 pr.fin none r4.2.2 [(LV.bool true)]) (exIf r4.1 .ret (
 pr.fin none r4.2.2 [(getL r4.2.1 0)]) (none))
theorem F_ip4_byteful_eq (g : Call) (a0 : LV) : fnEv g c_ip4_byteful [a0] none = F_ip4_byteful g a0 := by kernel_rfl

/-- interpreter/num.Big -/
noncomputable def F_num_Big (g : Call) (a0 : LV) (a1 : LV) : Option (LV × Option LV) :=
 (pr.bin .neq a1 (LV.int .i64 1)).bind fun t10_3 =>
 (pr.guard t10_3 true).bind fun b5 =>
 (if b5 = true then some a1 else some LV.undef).bind fun t12_5 =>
 (pr.guard t10_3 true).bind fun b6 =>
 (if b6 = true then pr.bin .neq t12_5 (LV.int .i64 2) else some LV.undef).bind fun t13_6 =>
 (pr.pick t10_3 t13_6 (LV.bool false)).bind fun t14_7 =>
 (pr.guard t14_7 true).bind fun b9 =>
 (if b9 = true then some a1 else some LV.undef).bind fun t16_9 =>
 (pr.guard t14_7 true).bind fun b10 =>
 (if b10 = true then pr.bin .neq t16_9 (LV.int .i64 4) else some LV.undef).bind fun t17_10 =>
 (pr.pick t14_7 t17_10 (LV.bool false)).bind fun t18_11 =>
 condK t18_11 (
 (pr.parts (LV.agg [(LV.int .i64 0), (LV.int .i64 0)]) [(0, (LV.int .i64 1))]).bind fun t19_13 =>
 (pr.box t19_13).bind fun t20_14 =>
 (pr.iface ty_ptr_num_Fault t20_14).bind fun t21_15 =>
 pr.fin none noSlots [(LV.str []), t21_15]) (
 (pr.bin .lss a0 (LV.int .i64 0)).bind fun t24_19 =>
 (pr.guard t24_19 false).bind fun b21 =>
 (if b21 = true then some a0 else some LV.undef).bind fun t26_21 =>
 (pr.guard t24_19 false).bind fun b22 =>
 (if b22 = true then some a1 else some LV.undef).bind fun t27_22 =>
 (pr.guard t24_19 false).bind fun b23 =>
 (if b23 = true then pr.bin .mul (LV.int .i64 8) t27_22 else some LV.undef).bind fun t28_23 =>
 (pr.guard t24_19 false).bind fun b24 =>
 (if b24 = true then pr.bin .shl (LV.int .i64 1) t28_23 else some LV.undef).bind fun t29_24 =>
 (pr.guard t24_19 false).bind fun b25 =>
 (if b25 = true then pr.bin .geq t26_21 t29_24 else some LV.undef).bind fun t30_25 =>
 (pr.pick t24_19 (LV.bool true) t30_25).bind fun t31_26 =>
 condK t31_26 (
 (pr.parts (LV.agg [(LV.int .i64 0), (LV.int .i64 0)]) [(0, (LV.int .i64 13))]).bind fun t32_28 =>
 (pr.box t32_28).bind fun t33_29 =>
 (pr.iface ty_ptr_num_Fault t33_29).bind fun t34_30 =>
 pr.fin none noSlots [(LV.str []), t34_30]) (
 (pr.mkSl 36 noSlots a1 a1).bind fun t36_34 =>
 (whileW (fun q38 : List LV × Slots =>
 (pr.bin .lss (getL q38.1 0) a1).bind fun t39_39 =>
 condK t39_39 (
 (pr.bin .sub a1 (LV.int .i64 1)).bind fun t45_46 =>
 (pr.bin .sub t45_46 (getL q38.1 0)).bind fun t47_48 =>
 (pr.bin .mul (LV.int .i64 8) t47_48).bind fun t48_49 =>
 (pr.bin .shr a0 t48_49).bind fun t49_50 =>
 (pr.conv .u8 t49_50).bind fun t50_51 =>
 (pr.idxAddr none 1 t36_34.1 (getL q38.1 0)).bind fun t51_52 =>
 (pr.store 1 false q38.2 t51_52 t50_51).bind fun u53 =>
 (pr.bin .add (getL q38.1 0) (LV.int .i64 1)).bind fun t52_54 =>
 pr.round t36_34.2 .normal [t52_54] u53.2) (
 pr.round t36_34.2 (.exit 1) [(getL q38.1 0)] q38.2)) ([(LV.int .i64 0)], t36_34.2)).bind fun r38 =>
 exIf r38.1 (.exit 1) (
 (pr.b2s r38.2.2 t36_34.1).bind fun t54_57 =>
 pr.fin none r38.2.2 [t54_57, LV.nili]) (none)))
theorem F_num_Big_eq (g : Call) (a0 : LV) (a1 : LV) : fnEv g c_num_Big [a0, a1] none = F_num_Big g a0 a1 := by kernel_rfl

/-- interpreter/sum.fold -/
noncomputable def F_sum_fold (g : Call) (a0 : LV) : Option (LV × Option LV) :=
 (whileW (fun q1 : List LV × Slots =>
 (pr.bin .gtr (getL q1.1 0) (LV.int .i64 65535)).bind fun t4_3 =>
 condK t4_3 (
 (pr.bin .shr (getL q1.1 0) (LV.int .u64 16)).bind fun t6_5 =>
 (pr.bin .and (getL q1.1 0) (LV.int .i64 65535)).bind fun t8_7 =>
 (pr.bin .add t6_5 t8_7).bind fun t9_8 =>
 pr.round noSlots .normal [t9_8] q1.2) (
 pr.round noSlots (.exit 0) [(getL q1.1 0)] q1.2)) ([a0], noSlots)).bind fun r1 =>
 exIf r1.1 (.exit 0) (
 pr.fin none r1.2.2 [(getL r1.2.1 0)]) (none)
theorem F_sum_fold_eq (g : Call) (a0 : LV) : fnEv g c_sum_fold [a0] none = F_sum_fold g a0 := by kernel_rfl

/-- interpreter/sum.add -/
noncomputable def F_sum_add (g : Call) (a0 : LV) (a1 : LV) (a2 : LV) (a3 : LV) : Option (LV × Option LV) :=
 (pr.len true a2).bind fun t12_2 =>
 (whileW (fun q4 : List LV × Slots =>
 (pr.bin .lss (getL q4.1 1) t12_2).bind fun t14_5 =>
 condK t14_5 (
 (pr.idxStr a2 (getL q4.1 1)).bind fun t18_10 =>
 (pr.bin .xor t18_10 a3).bind fun t20_12 =>
 (pr.conv .i64 t20_12).bind fun t21_13 =>
 (pr.bin .add a1 (getL q4.1 1)).bind fun t24_17 =>
 (pr.bin .rem t24_17 (LV.int .i64 2)).bind fun t25_18 =>
 (pr.bin .eql t25_18 (LV.int .i64 0)).bind fun t26_19 =>
 condK t26_19 (
 (pr.bin .shl t21_13 (LV.int .u64 8)).bind fun t28_21 =>
 (pr.bin .add (getL q4.1 0) t28_21).bind fun t31_25 =>
 (pr.bin .add (getL q4.1 1) (LV.int .i64 1)).bind fun t32_27 =>
 pr.round noSlots .normal [t31_25, t32_27] q4.2) (
 (pr.bin .add (getL q4.1 0) t21_13).bind fun t31_31 =>
 (pr.bin .add (getL q4.1 1) (LV.int .i64 1)).bind fun t32_33 =>
 pr.round noSlots .normal [t31_31, t32_33] q4.2)) (
 pr.round noSlots (.exit 0) [(getL q4.1 0), (getL q4.1 1)] q4.2)) ([a0, (LV.int .i64 0)], noSlots)).bind fun r4 =>
 exIf r4.1 (.exit 0) (
 pr.fin none r4.2.2 [(getL r4.2.1 0)]) (none)
theorem F_sum_add_eq (g : Call) (a0 : LV) (a1 : LV) (a2 : LV) (a3 : LV) : fnEv g c_sum_add [a0, a1, a2, a3] none = F_sum_add g a0 a1 a2 a3 := by kernel_rfl

/-- interpreter/interpreterref03.within -/
noncomputable def F_interpreterref03_within (g : Call) (a0 : LV) (a1 : LV) : Option (LV × Option LV) :=
 (pr.bin .geq a0 (LV.int .i64 0)).bind fun t6_2 =>
 (pr.guard t6_2 true).bind fun b4 =>
 (if b4 = true then some a0 else some LV.undef).bind fun t8_4 =>
 (pr.guard t6_2 true).bind fun b5 =>
 (if b5 = true then some a1 else some LV.undef).bind fun t9_5 =>
 (pr.guard t6_2 true).bind fun b6 =>
 (if b6 = true then pr.bin .leq t8_4 t9_5 else some LV.undef).bind fun t10_6 =>
 (pr.pick t6_2 t10_6 (LV.bool false)).bind fun t11_7 =>
 pr.fin none noSlots [t11_7]
theorem F_interpreterref03_within_eq (g : Call) (a0 : LV) (a1 : LV) : fnEv g c_interpreterref03_within [a0, a1] none = F_interpreterref03_within g a0 a1 := by kernel_rfl

/-- (*interpreter/interpreterref01.Reader).Number -/
noncomputable def F_interpreterref01_Reader_Number (g : Call) (h : LV) (a1 : LV) : Option (LV × Option LV) :=
 (pr.callRw g id_interpreterref01_Reader_Text (upd noSlots 0 (.obj 0 h)) [(LV.ptr 0 0 [] 0), a1]).bind fun t13_4 =>
 (pr.extract t13_4.1 0).bind fun t14_6 =>
 (pr.extract t13_4.1 1).bind fun t15_7 =>
 (whileW (fun q12 : List LV × Slots =>
 (pr.len true t14_6).bind fun t18_15 =>
 (pr.bin .lss (getL q12.1 1) t18_15).bind fun t19_16 =>
 condK t19_16 (
 (pr.bin .mul (getL q12.1 0) (LV.int .i64 256)).bind fun t23_18 =>
 (pr.idxStr t14_6 (getL q12.1 1)).bind fun t26_21 =>
 (pr.conv .i64 t26_21).bind fun t27_22 =>
 (pr.bin .add t23_18 t27_22).bind fun t28_23 =>
 (pr.bin .add (getL q12.1 1) (LV.int .i64 1)).bind fun t21_26 =>
 pr.round t13_4.2 .normal [t28_23, t21_26] q12.2) (
 pr.round t13_4.2 (.exit 0) [(getL q12.1 0), (getL q12.1 1)] q12.2)) ([(LV.int .i64 0), (LV.int .i64 0)], t13_4.2)).bind fun r12 =>
 exIf r12.1 (.exit 0) (
 pr.fin (some h) r12.2.2 [(getL r12.2.1 0), t15_7]) (none)
theorem F_interpreterref01_Reader_Number_eq (g : Call) (h : LV) (a1 : LV) : fnEv g c_interpreterref01_Reader_Number [(LV.ptr 0 0 [] 0), a1] (some h) = F_interpreterref01_Reader_Number g h a1 := by kernel_rfl

/-- (*interpreter/interpreterref01.Reader).Text -/
noncomputable def F_interpreterref01_Reader_Text (g : Call) (h : LV) (a1 : LV) : Option (LV × Option LV) :=
 (pr.nilCheck (LV.ptr 0 0 [] 0)).bind fun t9_3 =>
 (pr.fieldAddr 2 2 t9_3).bind fun t10_4 =>
 (pr.load 1 false (upd noSlots 0 (.obj 0 h)) t10_4).bind fun t11_5 =>
 (pr.bin .neq t11_5 (LV.int .i64 0)).bind fun t12_6 =>
 condK t12_6 (
 (pr.nilCheck (LV.ptr 0 0 [] 0)).bind fun t14_8 =>
 (pr.fieldAddr 2 2 t14_8).bind fun t15_9 =>
 (pr.load 1 false (upd noSlots 0 (.obj 0 h)) t15_9).bind fun t16_10 =>
 pr.fin (some h) (upd noSlots 0 (.obj 0 h)) [(LV.str []), t16_10]) (
 (pr.bin .lss a1 (LV.int .i64 0)).bind fun t18_14 =>
 condK t18_14 (
 (pr.nilCheck (LV.ptr 0 0 [] 0)).bind fun t20_16 =>
 (pr.fieldAddr 2 2 t20_16).bind fun t21_17 =>
 (pr.store 1 false (upd noSlots 0 (.obj 0 h)) t21_17 (LV.int .i64 1)).bind fun u18 =>
 (pr.nilCheck (LV.ptr 0 0 [] 0)).bind fun t47_20 =>
 (pr.fieldAddr 2 2 t47_20).bind fun t48_21 =>
 (pr.load 1 false u18.2 t48_21).bind fun t49_22 =>
 (pr.bin .neq t49_22 (LV.int .i64 0)).bind fun t50_23 =>
 condK t50_23 (
 (pr.nilCheck (LV.ptr 0 0 [] 0)).bind fun t53_26 =>
 (pr.fieldAddr 1 1 t53_26).bind fun t54_27 =>
 (pr.load 1 false u18.2 t54_27).bind fun t55_28 =>
 (pr.nilCheck (LV.ptr 0 0 [] 0)).bind fun t56_29 =>
 (pr.fieldAddr 3 3 t56_29).bind fun t57_30 =>
 (pr.store 1 false u18.2 t57_30 t55_28).bind fun u31 =>
 (pr.nilCheck (LV.ptr 0 0 [] 0)).bind fun t59_33 =>
 (pr.fieldAddr 2 2 t59_33).bind fun t60_34 =>
 (pr.load 1 false u31.2 t60_34).bind fun t61_35 =>
 pr.fin (some h) u31.2 [(LV.str []), t61_35]) (
 (whileW (fun q40 : List LV × Slots =>
 (pr.bin .lss (getL q40.1 1) a1).bind fun t64_43 =>
 condK t64_43 (
 (pr.nilCheck (LV.ptr 0 0 [] 0)).bind fun t69_46 =>
 (pr.fieldAddr 0 0 t69_46).bind fun t70_47 =>
 (pr.load 1 false q40.2 t70_47).bind fun t71_48 =>
 (pr.nilCheck (LV.ptr 0 0 [] 0)).bind fun t73_50 =>
 (pr.fieldAddr 1 1 t73_50).bind fun t74_51 =>
 (pr.load 1 false q40.2 t74_51).bind fun t75_52 =>
 (pr.nilCheck (LV.ptr 0 0 [] 0)).bind fun t77_54 =>
 (pr.fieldAddr 1 1 t77_54).bind fun t78_55 =>
 (pr.load 1 false q40.2 t78_55).bind fun t79_56 =>
 (pr.bin .add t79_56 (LV.int .i64 1)).bind fun t80_57 =>
 (pr.slc 0 t71_48 (some t75_52) (some t80_57)).bind fun t81_58 =>
 (pr.bin .add (getL q40.1 0) t81_58).bind fun t82_59 =>
 (pr.nilCheck (LV.ptr 0 0 [] 0)).bind fun t85_63 =>
 (pr.fieldAddr 1 1 t85_63).bind fun t86_64 =>
 (pr.load 1 false q40.2 t86_64).bind fun t87_65 =>
 (pr.bin .add t87_65 (LV.int .i64 1)).bind fun t88_66 =>
 (pr.nilCheck (LV.ptr 0 0 [] 0)).bind fun t89_67 =>
 (pr.fieldAddr 1 1 t89_67).bind fun t90_68 =>
 (pr.store 1 false q40.2 t90_68 t88_66).bind fun u69 =>
 (pr.bin .add (getL q40.1 1) (LV.int .i64 1)).bind fun t66_71 =>
 pr.round u18.2 .normal [t82_59, t66_71] u69.2) (
 pr.round u18.2 (.exit 0) [(getL q40.1 0), (getL q40.1 1)] q40.2)) ([(LV.str []), (LV.int .i64 0)], u18.2)).bind fun r40 =>
 exIf r40.1 (.exit 0) (
 pr.fin (some h) r40.2.2 [(getL r40.2.1 0), (LV.int .i64 0)]) (none))) (
 (pr.nilCheck (LV.ptr 0 0 [] 0)).bind fun t24_78 =>
 (pr.fieldAddr 0 0 t24_78).bind fun t25_79 =>
 (pr.load 1 false (upd noSlots 0 (.obj 0 h)) t25_79).bind fun t26_80 =>
 (pr.len true t26_80).bind fun t27_81 =>
 (pr.bin .gtr a1 t27_81).bind fun t28_82 =>
 (pr.guard t28_82 false).bind fun b84 =>
 (if b84 = true then some (LV.ptr 0 0 [] 0) else some LV.undef).bind fun t30_84 =>
 (pr.guard t28_82 false).bind fun b85 =>
 (if b85 = true then pr.nilCheck t30_84 else some LV.undef).bind fun t31_85 =>
 (pr.guard t28_82 false).bind fun b86 =>
 (if b86 = true then pr.fieldAddr 1 1 t31_85 else some LV.undef).bind fun t32_86 =>
 (pr.guard t28_82 false).bind fun b87 =>
 (if b87 = true then pr.load 1 false (upd noSlots 0 (.obj 0 h)) t32_86 else some LV.undef).bind fun t33_87 =>
 (pr.guard t28_82 false).bind fun b88 =>
 (if b88 = true then some (LV.ptr 0 0 [] 0) else some LV.undef).bind fun t34_88 =>
 (pr.guard t28_82 false).bind fun b89 =>
 (if b89 = true then pr.nilCheck t34_88 else some LV.undef).bind fun t35_89 =>
 (pr.guard t28_82 false).bind fun b90 =>
 (if b90 = true then pr.fieldAddr 0 0 t35_89 else some LV.undef).bind fun t36_90 =>
 (pr.guard t28_82 false).bind fun b91 =>
 (if b91 = true then pr.load 1 false (upd noSlots 0 (.obj 0 h)) t36_90 else some LV.undef).bind fun t37_91 =>
 (pr.guard t28_82 false).bind fun b92 =>
 (if b92 = true then pr.len true t37_91 else some LV.undef).bind fun t38_92 =>
 (pr.guard t28_82 false).bind fun b93 =>
 (if b93 = true then some a1 else some LV.undef).bind fun t39_93 =>
 (pr.guard t28_82 false).bind fun b94 =>
 (if b94 = true then pr.bin .sub t38_92 t39_93 else some LV.undef).bind fun t40_94 =>
 (pr.guard t28_82 false).bind fun b95 =>
 (if b95 = true then pr.bin .gtr t33_87 t40_94 else some LV.undef).bind fun t41_95 =>
 (pr.pick t28_82 (LV.bool true) t41_95).bind fun t42_96 =>
 condK t42_96 (
 (pr.nilCheck (LV.ptr 0 0 [] 0)).bind fun t44_98 =>
 (pr.fieldAddr 2 2 t44_98).bind fun t45_99 =>
 (pr.store 1 false (upd noSlots 0 (.obj 0 h)) t45_99 (LV.int .i64 7)).bind fun u100 =>
 (pr.nilCheck (LV.ptr 0 0 [] 0)).bind fun t47_102 =>
 (pr.fieldAddr 2 2 t47_102).bind fun t48_103 =>
 (pr.load 1 false u100.2 t48_103).bind fun t49_104 =>
 (pr.bin .neq t49_104 (LV.int .i64 0)).bind fun t50_105 =>
 condK t50_105 (
 (pr.nilCheck (LV.ptr 0 0 [] 0)).bind fun t53_108 =>
 (pr.fieldAddr 1 1 t53_108).bind fun t54_109 =>
 (pr.load 1 false u100.2 t54_109).bind fun t55_110 =>
 (pr.nilCheck (LV.ptr 0 0 [] 0)).bind fun t56_111 =>
 (pr.fieldAddr 3 3 t56_111).bind fun t57_112 =>
 (pr.store 1 false u100.2 t57_112 t55_110).bind fun u113 =>
 (pr.nilCheck (LV.ptr 0 0 [] 0)).bind fun t59_115 =>
 (pr.fieldAddr 2 2 t59_115).bind fun t60_116 =>
 (pr.load 1 false u113.2 t60_116).bind fun t61_117 =>
 pr.fin (some h) u113.2 [(LV.str []), t61_117]) (
 (whileW (fun q122 : List LV × Slots =>
 (pr.bin .lss (getL q122.1 1) a1).bind fun t64_125 =>
 condK t64_125 (
 (pr.nilCheck (LV.ptr 0 0 [] 0)).bind fun t69_128 =>
 (pr.fieldAddr 0 0 t69_128).bind fun t70_129 =>
 (pr.load 1 false q122.2 t70_129).bind fun t71_130 =>
 (pr.nilCheck (LV.ptr 0 0 [] 0)).bind fun t73_132 =>
 (pr.fieldAddr 1 1 t73_132).bind fun t74_133 =>
 (pr.load 1 false q122.2 t74_133).bind fun t75_134 =>
 (pr.nilCheck (LV.ptr 0 0 [] 0)).bind fun t77_136 =>
 (pr.fieldAddr 1 1 t77_136).bind fun t78_137 =>
 (pr.load 1 false q122.2 t78_137).bind fun t79_138 =>
 (pr.bin .add t79_138 (LV.int .i64 1)).bind fun t80_139 =>
 (pr.slc 0 t71_130 (some t75_134) (some t80_139)).bind fun t81_140 =>
 (pr.bin .add (getL q122.1 0) t81_140).bind fun t82_141 =>
 (pr.nilCheck (LV.ptr 0 0 [] 0)).bind fun t85_145 =>
 (pr.fieldAddr 1 1 t85_145).bind fun t86_146 =>
 (pr.load 1 false q122.2 t86_146).bind fun t87_147 =>
 (pr.bin .add t87_147 (LV.int .i64 1)).bind fun t88_148 =>
 (pr.nilCheck (LV.ptr 0 0 [] 0)).bind fun t89_149 =>
 (pr.fieldAddr 1 1 t89_149).bind fun t90_150 =>
 (pr.store 1 false q122.2 t90_150 t88_148).bind fun u151 =>
 (pr.bin .add (getL q122.1 1) (LV.int .i64 1)).bind fun t66_153 =>
 pr.round u100.2 .normal [t82_141, t66_153] u151.2) (
 pr.round u100.2 (.exit 0) [(getL q122.1 0), (getL q122.1 1)] q122.2)) ([(LV.str []), (LV.int .i64 0)], u100.2)).bind fun r122 =>
 exIf r122.1 (.exit 0) (
 pr.fin (some h) r122.2.2 [(getL r122.2.1 0), (LV.int .i64 0)]) (none))) (
 (pr.nilCheck (LV.ptr 0 0 [] 0)).bind fun t47_159 =>
 (pr.fieldAddr 2 2 t47_159).bind fun t48_160 =>
 (pr.load 1 false (upd noSlots 0 (.obj 0 h)) t48_160).bind fun t49_161 =>
 (pr.bin .neq t49_161 (LV.int .i64 0)).bind fun t50_162 =>
 condK t50_162 (
 (pr.nilCheck (LV.ptr 0 0 [] 0)).bind fun t53_165 =>
 (pr.fieldAddr 1 1 t53_165).bind fun t54_166 =>
 (pr.load 1 false (upd noSlots 0 (.obj 0 h)) t54_166).bind fun t55_167 =>
 (pr.nilCheck (LV.ptr 0 0 [] 0)).bind fun t56_168 =>
 (pr.fieldAddr 3 3 t56_168).bind fun t57_169 =>
 (pr.store 1 false (upd noSlots 0 (.obj 0 h)) t57_169 t55_167).bind fun u170 =>
 (pr.nilCheck (LV.ptr 0 0 [] 0)).bind fun t59_172 =>
 (pr.fieldAddr 2 2 t59_172).bind fun t60_173 =>
 (pr.load 1 false u170.2 t60_173).bind fun t61_174 =>
 pr.fin (some h) u170.2 [(LV.str []), t61_174]) (
 (whileW (fun q179 : List LV × Slots =>
 (pr.bin .lss (getL q179.1 1) a1).bind fun t64_182 =>
 condK t64_182 (
 (pr.nilCheck (LV.ptr 0 0 [] 0)).bind fun t69_185 =>
 (pr.fieldAddr 0 0 t69_185).bind fun t70_186 =>
 (pr.load 1 false q179.2 t70_186).bind fun t71_187 =>
 (pr.nilCheck (LV.ptr 0 0 [] 0)).bind fun t73_189 =>
 (pr.fieldAddr 1 1 t73_189).bind fun t74_190 =>
 (pr.load 1 false q179.2 t74_190).bind fun t75_191 =>
 (pr.nilCheck (LV.ptr 0 0 [] 0)).bind fun t77_193 =>
 (pr.fieldAddr 1 1 t77_193).bind fun t78_194 =>
 (pr.load 1 false q179.2 t78_194).bind fun t79_195 =>
 (pr.bin .add t79_195 (LV.int .i64 1)).bind fun t80_196 =>
 (pr.slc 0 t71_187 (some t75_191) (some t80_196)).bind fun t81_197 =>
 (pr.bin .add (getL q179.1 0) t81_197).bind fun t82_198 =>
 (pr.nilCheck (LV.ptr 0 0 [] 0)).bind fun t85_202 =>
 (pr.fieldAddr 1 1 t85_202).bind fun t86_203 =>
 (pr.load 1 false q179.2 t86_203).bind fun t87_204 =>
 (pr.bin .add t87_204 (LV.int .i64 1)).bind fun t88_205 =>
 (pr.nilCheck (LV.ptr 0 0 [] 0)).bind fun t89_206 =>
 (pr.fieldAddr 1 1 t89_206).bind fun t90_207 =>
 (pr.store 1 false q179.2 t90_207 t88_205).bind fun u208 =>
 (pr.bin .add (getL q179.1 1) (LV.int .i64 1)).bind fun t66_210 =>
 pr.round (upd noSlots 0 (.obj 0 h)) .normal [t82_198, t66_210] u208.2) (
 pr.round (upd noSlots 0 (.obj 0 h)) (.exit 0) [(getL q179.1 0), (getL q179.1 1)] q179.2)) ([(LV.str []), (LV.int .i64 0)], (upd noSlots 0 (.obj 0 h)))).bind fun r179 =>
 exIf r179.1 (.exit 0) (
 pr.fin (some h) r179.2.2 [(getL r179.2.1 0), (LV.int .i64 0)]) (none)))))
theorem F_interpreterref01_Reader_Text_eq (g : Call) (h : LV) (a1 : LV) : fnEv g c_interpreterref01_Reader_Text [(LV.ptr 0 0 [] 0), a1] (some h) = F_interpreterref01_Reader_Text g h a1 := by kernel_rfl


end Go.Ev

/- Which functions are known. -/
namespace Go.Ev
structure Has (S : Sys) : Prop where
  h_interpreterlaw03_Ip4Writes : S.fns id_interpreterlaw03_Ip4Writes = some c_interpreterlaw03_Ip4Writes
  h_interpreterlaw03_Ip4Reads : S.fns id_interpreterlaw03_Ip4Reads = some c_interpreterlaw03_Ip4Reads
  h_interpreterlaw03_Ip4Heads : S.fns id_interpreterlaw03_Ip4Heads = some c_interpreterlaw03_Ip4Heads
  h_interpreterlaw03_Ip4Back : S.fns id_interpreterlaw03_Ip4Back = some c_interpreterlaw03_Ip4Back
  h_interpreterlaw03_Ip4Again : S.fns id_interpreterlaw03_Ip4Again = some c_interpreterlaw03_Ip4Again
  h_interpreterlaw03_Ip4Fields : S.fns id_interpreterlaw03_Ip4Fields = some c_interpreterlaw03_Ip4Fields
  h_interpreterlaw03_Ip4Cut : S.fns id_interpreterlaw03_Ip4Cut = some c_interpreterlaw03_Ip4Cut
  h_interpreterlaw03_Ip4Routes : S.fns id_interpreterlaw03_Ip4Routes = some c_interpreterlaw03_Ip4Routes
  h_interpreterlaw03_Ip4Used : S.fns id_interpreterlaw03_Ip4Used = some c_interpreterlaw03_Ip4Used
  h_interpreterlaw03_Ip4Known : S.fns id_interpreterlaw03_Ip4Known = some c_interpreterlaw03_Ip4Known
  h_interpreterlaw03_awake : S.fns id_interpreterlaw03_awake = some c_interpreterlaw03_awake
  h_ip4_Bytes : S.fns id_ip4_Bytes = some c_ip4_Bytes
  h_interpreterref03_Bytes : S.fns id_interpreterref03_Bytes = some c_interpreterref03_Bytes
  h_interpreterlaw03_same : S.fns id_interpreterlaw03_same = some c_interpreterlaw03_same
  h_ip4_Parse : S.fns id_ip4_Parse = some c_ip4_Parse
  h_interpreterref03_Parse : S.fns id_interpreterref03_Parse = some c_interpreterref03_Parse
  h_interpreterref02_Of : S.fns id_interpreterref02_Of = some c_interpreterref02_Of
  h_sum_Right : S.fns id_sum_Right = some c_sum_Right
  h_ip4_Routed : S.fns id_ip4_Routed = some c_ip4_Routed
  h_interpreterref03_Routed : S.fns id_interpreterref03_Routed = some c_interpreterref03_Routed
  h_interpreterlaw03_example : S.fns id_interpreterlaw03_example = some c_interpreterlaw03_example
  h_ip4_why : S.fns id_ip4_why = some c_ip4_why
  h_ip4_fault : S.fns id_ip4_fault = some c_ip4_fault
  h_ip4_big : S.fns id_ip4_big = some c_ip4_big
  h_sum_Of : S.fns id_sum_Of = some c_sum_Of
  h_interpreterref03_Why : S.fns id_interpreterref03_Why = some c_interpreterref03_Why
  h_ip4_Parse_1 : S.fns id_ip4_Parse_1 = some c_ip4_Parse_1
  h_interpreterref03_number : S.fns id_interpreterref03_number = some c_interpreterref03_number
  h_interpreterref02_Total : S.fns id_interpreterref02_Total = some c_interpreterref02_Total
  h_interpreterref02_Words : S.fns id_interpreterref02_Words = some c_interpreterref02_Words
  h_ip4_byteful : S.fns id_ip4_byteful = some c_ip4_byteful
  h_num_Big : S.fns id_num_Big = some c_num_Big
  h_sum_fold : S.fns id_sum_fold = some c_sum_fold
  h_sum_add : S.fns id_sum_add = some c_sum_add
  h_interpreterref03_within : S.fns id_interpreterref03_within = some c_interpreterref03_within
  h_interpreterref01_Reader_Number : S.fns id_interpreterref01_Reader_Number = some c_interpreterref01_Reader_Number
  h_interpreterref01_Reader_Text : S.fns id_interpreterref01_Reader_Text = some c_interpreterref01_Reader_Text
  x_rep : HasRep S id_strings_Repeat
abbrev faultLV (c : Int) : LV := .ifc ty_ptr_num_Fault (.box (.agg [.int .i64 c, .int .i64 0]))
end Go.Ev

/- The system of this seat. -/
namespace Go.Ev
set_option maxRecDepth 100000
def table : List (Nat × MFn) := [
  (id_interpreterlaw03_Ip4Writes, c_interpreterlaw03_Ip4Writes),
  (id_interpreterlaw03_Ip4Reads, c_interpreterlaw03_Ip4Reads),
  (id_interpreterlaw03_Ip4Heads, c_interpreterlaw03_Ip4Heads),
  (id_interpreterlaw03_Ip4Back, c_interpreterlaw03_Ip4Back),
  (id_interpreterlaw03_Ip4Again, c_interpreterlaw03_Ip4Again),
  (id_interpreterlaw03_Ip4Fields, c_interpreterlaw03_Ip4Fields),
  (id_interpreterlaw03_Ip4Cut, c_interpreterlaw03_Ip4Cut),
  (id_interpreterlaw03_Ip4Routes, c_interpreterlaw03_Ip4Routes),
  (id_interpreterlaw03_Ip4Used, c_interpreterlaw03_Ip4Used),
  (id_interpreterlaw03_Ip4Known, c_interpreterlaw03_Ip4Known),
  (id_interpreterlaw03_awake, c_interpreterlaw03_awake),
  (id_ip4_Bytes, c_ip4_Bytes),
  (id_interpreterref03_Bytes, c_interpreterref03_Bytes),
  (id_interpreterlaw03_same, c_interpreterlaw03_same),
  (id_ip4_Parse, c_ip4_Parse),
  (id_interpreterref03_Parse, c_interpreterref03_Parse),
  (id_interpreterref02_Of, c_interpreterref02_Of),
  (id_sum_Right, c_sum_Right),
  (id_ip4_Routed, c_ip4_Routed),
  (id_interpreterref03_Routed, c_interpreterref03_Routed),
  (id_interpreterlaw03_example, c_interpreterlaw03_example),
  (id_ip4_why, c_ip4_why),
  (id_ip4_fault, c_ip4_fault),
  (id_ip4_big, c_ip4_big),
  (id_sum_Of, c_sum_Of),
  (id_interpreterref03_Why, c_interpreterref03_Why),
  (id_ip4_Parse_1, c_ip4_Parse_1),
  (id_interpreterref03_number, c_interpreterref03_number),
  (id_interpreterref02_Total, c_interpreterref02_Total),
  (id_interpreterref02_Words, c_interpreterref02_Words),
  (id_ip4_byteful, c_ip4_byteful),
  (id_num_Big, c_num_Big),
  (id_sum_fold, c_sum_fold),
  (id_sum_add, c_sum_add),
  (id_interpreterref03_within, c_interpreterref03_within),
  (id_interpreterref01_Reader_Number, c_interpreterref01_Reader_Number),
  (id_interpreterref01_Reader_Text, c_interpreterref01_Reader_Text)]
def sys : Sys := { fns := fun f => (table.find? fun p => p.1 == f).map (·.2), ext := extR id_strings_Repeat }
theorem sysHas : Has sys where
  h_interpreterlaw03_Ip4Writes := by kernel_rfl
  h_interpreterlaw03_Ip4Reads := by kernel_rfl
  h_interpreterlaw03_Ip4Heads := by kernel_rfl
  h_interpreterlaw03_Ip4Back := by kernel_rfl
  h_interpreterlaw03_Ip4Again := by kernel_rfl
  h_interpreterlaw03_Ip4Fields := by kernel_rfl
  h_interpreterlaw03_Ip4Cut := by kernel_rfl
  h_interpreterlaw03_Ip4Routes := by kernel_rfl
  h_interpreterlaw03_Ip4Used := by kernel_rfl
  h_interpreterlaw03_Ip4Known := by kernel_rfl
  h_interpreterlaw03_awake := by kernel_rfl
  h_ip4_Bytes := by kernel_rfl
  h_interpreterref03_Bytes := by kernel_rfl
  h_interpreterlaw03_same := by kernel_rfl
  h_ip4_Parse := by kernel_rfl
  h_interpreterref03_Parse := by kernel_rfl
  h_interpreterref02_Of := by kernel_rfl
  h_sum_Right := by kernel_rfl
  h_ip4_Routed := by kernel_rfl
  h_interpreterref03_Routed := by kernel_rfl
  h_interpreterlaw03_example := by kernel_rfl
  h_ip4_why := by kernel_rfl
  h_ip4_fault := by kernel_rfl
  h_ip4_big := by kernel_rfl
  h_sum_Of := by kernel_rfl
  h_interpreterref03_Why := by kernel_rfl
  h_ip4_Parse_1 := by kernel_rfl
  h_interpreterref03_number := by kernel_rfl
  h_interpreterref02_Total := by kernel_rfl
  h_interpreterref02_Words := by kernel_rfl
  h_ip4_byteful := by kernel_rfl
  h_num_Big := by kernel_rfl
  h_sum_fold := by kernel_rfl
  h_sum_add := by kernel_rfl
  h_interpreterref03_within := by kernel_rfl
  h_interpreterref01_Reader_Number := by kernel_rfl
  h_interpreterref01_Reader_Text := by kernel_rfl
  x_rep := ⟨by kernel_rfl, rfl⟩
end Go.Ev
