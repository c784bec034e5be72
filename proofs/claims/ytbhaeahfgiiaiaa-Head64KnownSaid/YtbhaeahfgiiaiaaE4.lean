/- Part 4 of a proof: what the functions yield. It stands by itself; no condition. -/
import Derived.Test.YtbhaeahfgiiaiaaE3
import Derived.KernelRfl
/- The functions, in plain Lean. -/
namespace Go.Ev
set_option linter.unusedVariables false
set_option maxRecDepth 100000
/-- interpreter/interpreterlaw13.Head64Does -/
noncomputable def F_interpreterlaw13_Head64Does (g : Call) (a0 : LV) (a1 : LV) (a2 : LV) (a3 : LV) (a4 : LV) : Option (LV × Option LV) :=
 (pr.box a0).bind fun t5_0 =>
 (pr.box a1).bind fun t6_1 =>
 (pr.box a2).bind fun t7_2 =>
 (pr.call g id_interpreterlaw13_awake noSlots []).bind fun t19_4 =>
 (pr.un .not t19_4).bind fun t20_5 =>
 condK t20_5 (
 pr.fin none noSlots [(LV.bool false)]) (
 (pr.load 42 true noSlots t5_0).bind fun t21_7 =>
 (pr.call g id_interpreterlaw13_Great noSlots [t21_7]).bind fun t22_8 =>
 (pr.guard t22_8 false).bind fun b10 =>
 (if b10 = true then pr.fieldAddr 8 38 t5_0 else some LV.undef).bind fun t24_10 =>
 (pr.guard t22_8 false).bind fun b11 =>
 (if b11 = true then pr.load 1 false noSlots t24_10 else some LV.undef).bind fun t25_11 =>
 (pr.guard t22_8 false).bind fun b12 =>
 (if b12 = true then pr.bin .lss t25_11 (LV.int .i64 0) else some LV.undef).bind fun t26_12 =>
 (pr.pick t22_8 (LV.bool true) t26_12).bind fun t27_13 =>
 condK t27_13 (
 pr.fin none noSlots [(LV.bool true)]) (
 (pr.load 42 true noSlots t5_0).bind fun t29_15 =>
 (pr.load 4 true noSlots t6_1).bind fun t30_16 =>
 (pr.load 4 true noSlots t7_2).bind fun t31_17 =>
 (pr.call g id_head64_Head noSlots [t29_15, t30_16, t31_17, a3]).bind fun t33_19 =>
 (pr.extract t33_19 0).bind fun t34_21 =>
 (pr.extract t33_19 1).bind fun t35_22 =>
 (pr.alloc (LV.agg [(LV.int .i64 0), (LV.int .i64 0), (LV.int .i64 0), (LV.int .i64 0), (LV.int .i64 0), (LV.bool false), (LV.bool false), (LV.bytes [0, 0, 0, 0]), (LV.bytes [0, 0, 0, 0]), (LV.str []), (LV.str [])]) 11 noSlots).bind fun t11_23 =>
 (pr.store 17 true t11_23.2 t11_23.1 t34_21).bind fun u24 =>
 (pr.load 42 true u24.2 t5_0).bind fun t37_26 =>
 (pr.load 4 true u24.2 t6_1).bind fun t38_27 =>
 (pr.load 4 true u24.2 t7_2).bind fun t39_28 =>
 (pr.call g id_interpreterref13_Head u24.2 [t37_26, t38_27, t39_28, a3]).bind fun t41_30 =>
 (pr.extract t41_30 0).bind fun t42_32 =>
 (pr.extract t41_30 1).bind fun t43_33 =>
 (pr.alloc (LV.agg [(LV.int .i64 0), (LV.int .i64 0), (LV.int .i64 0), (LV.int .i64 0), (LV.int .i64 0), (LV.bool false), (LV.bool false), (LV.bytes [0, 0, 0, 0]), (LV.bytes [0, 0, 0, 0]), (LV.str []), (LV.str [])]) 13 u24.2).bind fun t13_34 =>
 (pr.store 17 true t13_34.2 t13_34.1 t42_32).bind fun u35 =>
 (pr.call g id_head64_Proto u35.2 [a4]).bind fun t46_38 =>
 (pr.extract t46_38 0).bind fun t47_40 =>
 (pr.extract t46_38 1).bind fun t48_41 =>
 (pr.call g id_interpreterref13_Proto u35.2 [a4]).bind fun t51_45 =>
 (pr.extract t51_45 0).bind fun t52_47 =>
 (pr.extract t51_45 1).bind fun t53_48 =>
 (pr.load 17 true u35.2 t11_23.1).bind fun t54_51 =>
 (pr.load 17 true u35.2 t13_34.1).bind fun t55_52 =>
 (pr.eqS (Sh.agg [(Sh.int .i64), (Sh.int .i64), (Sh.int .i64), (Sh.int .i64), (Sh.int .i64), Sh.bool, Sh.bool, (Sh.bytes 4), (Sh.bytes 4), Sh.str, Sh.str]) false t54_51 t55_52).bind fun t56_53 =>
 (pr.guard t56_53 true).bind fun b55 =>
 (if b55 = true then some t35_22 else some LV.undef).bind fun t58_55 =>
 (pr.guard t56_53 true).bind fun b56 =>
 (if b56 = true then some t43_33 else some LV.undef).bind fun t59_56 =>
 (pr.guard t56_53 true).bind fun b57 =>
 (if b57 = true then pr.call g id_interpreterlaw13_same u35.2 [t58_55, t59_56] else some LV.undef).bind fun t60_57 =>
 (pr.pick t56_53 t60_57 (LV.bool false)).bind fun t61_58 =>
 (pr.guard t61_58 true).bind fun b60 =>
 (if b60 = true then some t47_40 else some LV.undef).bind fun t63_60 =>
 (pr.guard t61_58 true).bind fun b61 =>
 (if b61 = true then some t52_47 else some LV.undef).bind fun t64_61 =>
 (pr.guard t61_58 true).bind fun b62 =>
 (if b62 = true then pr.bin .eql t63_60 t64_61 else some LV.undef).bind fun t65_62 =>
 (pr.pick t61_58 t65_62 (LV.bool false)).bind fun t66_63 =>
 (pr.guard t66_63 true).bind fun b65 =>
 (if b65 = true then some t48_41 else some LV.undef).bind fun t68_65 =>
 (pr.guard t66_63 true).bind fun b66 =>
 (if b66 = true then some t53_48 else some LV.undef).bind fun t69_66 =>
 (pr.guard t66_63 true).bind fun b67 =>
 (if b67 = true then pr.eqB false t68_65 t69_66 else some LV.undef).bind fun t70_67 =>
 (pr.pick t66_63 t70_67 (LV.bool false)).bind fun t71_68 =>
 (pr.guard t71_68 true).bind fun b70 =>
 (if b70 = true then pr.load 42 true u35.2 t5_0 else some LV.undef).bind fun t73_70 =>
 (pr.guard t71_68 true).bind fun b71 =>
 (if b71 = true then pr.call g id_head64_Wants u35.2 [t73_70] else some LV.undef).bind fun t74_71 =>
 (pr.guard t71_68 true).bind fun b72 =>
 (if b72 = true then pr.load 42 true u35.2 t5_0 else some LV.undef).bind fun t75_72 =>
 (pr.guard t71_68 true).bind fun b73 =>
 (if b73 = true then pr.call g id_interpreterref13_Wants u35.2 [t75_72] else some LV.undef).bind fun t76_73 =>
 (pr.guard t71_68 true).bind fun b74 =>
 (if b74 = true then pr.eqB false t74_71 t76_73 else some LV.undef).bind fun t77_74 =>
 (pr.pick t71_68 t77_74 (LV.bool false)).bind fun t78_75 =>
 pr.fin none u35.2 [t78_75]))
theorem F_interpreterlaw13_Head64Does_eq (g : Call) (a0 : LV) (a1 : LV) (a2 : LV) (a3 : LV) (a4 : LV) : fnEv g c_interpreterlaw13_Head64Does [a0, a1, a2, a3, a4] none = F_interpreterlaw13_Head64Does g a0 a1 a2 a3 a4 := by kernel_rfl

/-- interpreter/interpreterlaw13.Head64Blind -/
noncomputable def F_interpreterlaw13_Head64Blind (g : Call) (a0 : LV) (a1 : LV) (a2 : LV) (a3 : LV) (a4 : LV) (a5 : LV) : Option (LV × Option LV) :=
 (pr.box a0).bind fun t6_0 =>
 (pr.box a1).bind fun t7_1 =>
 (pr.box a2).bind fun t8_2 =>
 (pr.call g id_interpreterlaw13_awake noSlots []).bind fun t20_4 =>
 (pr.un .not t20_4).bind fun t21_5 =>
 condK t21_5 (
 pr.fin none noSlots [(LV.bool false)]) (
 (pr.load 42 true noSlots t6_0).bind fun t22_7 =>
 (pr.call g id_interpreterlaw13_Great noSlots [t22_7]).bind fun t23_8 =>
 condK t23_8 (
 pr.fin none noSlots [(LV.bool true)]) (
 (pr.load 42 true noSlots t6_0).bind fun t25_10 =>
 (pr.load 4 true noSlots t7_1).bind fun t26_11 =>
 (pr.load 4 true noSlots t8_2).bind fun t27_12 =>
 (pr.conv .i64 a3).bind fun t29_14 =>
 (pr.call g id_head64_Head noSlots [t25_10, t26_11, t27_12, t29_14]).bind fun t30_15 =>
 (pr.extract t30_15 0).bind fun t31_17 =>
 (pr.extract t30_15 1).bind fun t32_18 =>
 (pr.alloc (LV.agg [(LV.int .i64 0), (LV.int .i64 0), (LV.int .i64 0), (LV.int .i64 0), (LV.int .i64 0), (LV.bool false), (LV.bool false), (LV.bytes [0, 0, 0, 0]), (LV.bytes [0, 0, 0, 0]), (LV.str []), (LV.str [])]) 13 noSlots).bind fun t13_19 =>
 (pr.store 17 true t13_19.2 t13_19.1 t31_17).bind fun u20 =>
 (pr.load 42 true u20.2 t6_0).bind fun t33_22 =>
 (pr.alloc (LV.agg [(LV.int .i64 0), (LV.int .i64 0), (LV.int .i64 0), (LV.bytes [0, 0, 0, 0, 0, 0, 0, 0, 0, 0, 0, 0, 0, 0, 0, 0]), (LV.bytes [0, 0, 0, 0, 0, 0, 0, 0, 0, 0, 0, 0, 0, 0, 0, 0]), LV.nils, (LV.bool false), (LV.int .u32 0), (LV.int .i64 0), (LV.bool false), (LV.int .i64 0), (LV.str [])]) 15 u20.2).bind fun t15_23 =>
 (pr.store 42 true t15_23.2 t15_23.1 t33_22).bind fun u24 =>
 (pr.fieldAddr 1 1 t15_23.1).bind fun t35_26 =>
 (pr.store 1 false u24.2 t35_26 a5).bind fun u27 =>
 (pr.fieldAddr 4 19 t6_0).bind fun t36_28 =>
 (pr.load 16 true u27.2 t36_28).bind fun t37_29 =>
 (pr.fieldAddr 3 3 t6_0).bind fun t38_30 =>
 (pr.load 16 true u27.2 t38_30).bind fun t39_31 =>
 (pr.fieldAddr 3 3 t15_23.1).bind fun t40_32 =>
 (pr.store 16 true u27.2 t40_32 t37_29).bind fun u33 =>
 (pr.fieldAddr 4 19 t15_23.1).bind fun t41_34 =>
 (pr.store 16 true u33.2 t41_34 t39_31).bind fun u35 =>
 if noMeet t38_30 t40_32 = true then ((pr.load 42 true u35.2 t15_23.1).bind fun t43_36 =>
 (pr.load 4 true u35.2 t7_1).bind fun t44_37 =>
 (pr.load 4 true u35.2 t8_2).bind fun t45_38 =>
 (pr.conv .i64 a4).bind fun t47_40 =>
 (pr.call g id_head64_Head u35.2 [t43_36, t44_37, t45_38, t47_40]).bind fun t48_41 =>
 (pr.extract t48_41 0).bind fun t49_43 =>
 (pr.extract t48_41 1).bind fun t50_44 =>
 (pr.alloc (LV.agg [(LV.int .i64 0), (LV.int .i64 0), (LV.int .i64 0), (LV.int .i64 0), (LV.int .i64 0), (LV.bool false), (LV.bool false), (LV.bytes [0, 0, 0, 0]), (LV.bytes [0, 0, 0, 0]), (LV.str []), (LV.str [])]) 16 u35.2).bind fun t16_45 =>
 (pr.store 17 true t16_45.2 t16_45.1 t49_43).bind fun u46 =>
 (pr.eqNil 1 false t32_18).bind fun t52_49 =>
 (pr.eqNil 1 false t50_44).bind fun t54_51 =>
 (pr.eqB true t52_49 t54_51).bind fun t55_52 =>
 condK t55_52 (
 pr.fin none u46.2 [(LV.bool false)]) (
 (pr.eqNil 1 true t32_18).bind fun t57_55 =>
 condK t57_55 (
 (pr.load 17 true u46.2 t13_19.1).bind fun t58_56 =>
 (pr.load 17 true u46.2 t16_45.1).bind fun t59_57 =>
 (pr.eqS (Sh.agg [(Sh.int .i64), (Sh.int .i64), (Sh.int .i64), (Sh.int .i64), (Sh.int .i64), Sh.bool, Sh.bool, (Sh.bytes 4), (Sh.bytes 4), Sh.str, Sh.str]) false t58_56 t59_57).bind fun t60_58 =>
 (pr.guard t60_58 true).bind fun b60 =>
 (if b60 = true then pr.load 17 true u46.2 t13_19.1 else some LV.undef).bind fun t62_60 =>
 (pr.guard t60_58 true).bind fun b61 =>
 (if b61 = true then pr.parts (LV.agg [(LV.int .i64 0), (LV.int .i64 0), (LV.int .i64 0), (LV.int .i64 0), (LV.int .i64 0), (LV.bool false), (LV.bool false), (LV.bytes [0, 0, 0, 0]), (LV.bytes [0, 0, 0, 0]), (LV.str []), (LV.str [])]) [] else some LV.undef).bind fun t63_61 =>
 (pr.guard t60_58 true).bind fun b62 =>
 (if b62 = true then pr.eqS (Sh.agg [(Sh.int .i64), (Sh.int .i64), (Sh.int .i64), (Sh.int .i64), (Sh.int .i64), Sh.bool, Sh.bool, (Sh.bytes 4), (Sh.bytes 4), Sh.str, Sh.str]) false t62_60 t63_61 else some LV.undef).bind fun t64_62 =>
 (pr.pick t60_58 t64_62 (LV.bool false)).bind fun t65_63 =>
 pr.fin none u46.2 [t65_63]) (
 (pr.fieldAddr 5 35 t15_23.1).bind fun t66_65 =>
 (pr.store 1 false u46.2 t66_65 LV.nils).bind fun u66 =>
 (pr.load 42 true u66.2 t15_23.1).bind fun t68_67 =>
 (pr.load 4 true u66.2 t7_1).bind fun t69_68 =>
 (pr.load 4 true u66.2 t8_2).bind fun t70_69 =>
 (pr.conv .i64 a4).bind fun t72_71 =>
 (pr.call g id_head64_Head u66.2 [t68_67, t69_68, t70_69, t72_71]).bind fun t73_72 =>
 (pr.extract t73_72 0).bind fun t74_74 =>
 (pr.extract t73_72 1).bind fun t75_75 =>
 (pr.alloc (LV.agg [(LV.int .i64 0), (LV.int .i64 0), (LV.int .i64 0), (LV.int .i64 0), (LV.int .i64 0), (LV.bool false), (LV.bool false), (LV.bytes [0, 0, 0, 0]), (LV.bytes [0, 0, 0, 0]), (LV.str []), (LV.str [])]) 18 u66.2).bind fun t18_76 =>
 (pr.store 17 true t18_76.2 t18_76.1 t74_74).bind fun u77 =>
 (pr.eqNil 1 true t75_75).bind fun t77_80 =>
 (pr.guard t77_80 false).bind fun b82 =>
 (if b82 = true then pr.load 17 true u77.2 t18_76.1 else some LV.undef).bind fun t79_82 =>
 (pr.guard t77_80 false).bind fun b83 =>
 (if b83 = true then pr.load 17 true u77.2 t16_45.1 else some LV.undef).bind fun t80_83 =>
 (pr.guard t77_80 false).bind fun b84 =>
 (if b84 = true then pr.eqS (Sh.agg [(Sh.int .i64), (Sh.int .i64), (Sh.int .i64), (Sh.int .i64), (Sh.int .i64), Sh.bool, Sh.bool, (Sh.bytes 4), (Sh.bytes 4), Sh.str, Sh.str]) true t79_82 t80_83 else some LV.undef).bind fun t81_84 =>
 (pr.pick t77_80 (LV.bool true) t81_84).bind fun t82_85 =>
 condK t82_85 (
 pr.fin none u77.2 [(LV.bool false)]) (
 (pr.load 42 true u77.2 t6_0).bind fun t83_87 =>
 (pr.call g id_head64_Wants u77.2 [t83_87]).bind fun t84_88 =>
 condK t84_88 (
 (pr.fieldAddr 1 1 t13_19.1).bind fun t85_89 =>
 (pr.load 1 false u77.2 t85_89).bind fun t86_90 =>
 (pr.conv .i64 a3).bind fun t88_92 =>
 (pr.bin .neq t86_90 t88_92).bind fun t89_93 =>
 (pr.guard t89_93 false).bind fun b95 =>
 (if b95 = true then pr.fieldAddr 1 1 t16_45.1 else some LV.undef).bind fun t91_95 =>
 (pr.guard t89_93 false).bind fun b96 =>
 (if b96 = true then pr.load 1 false u77.2 t91_95 else some LV.undef).bind fun t92_96 =>
 (pr.guard t89_93 false).bind fun b97 =>
 (if b97 = true then some a4 else some LV.undef).bind fun t93_97 =>
 (pr.guard t89_93 false).bind fun b98 =>
 (if b98 = true then pr.conv .i64 t93_97 else some LV.undef).bind fun t94_98 =>
 (pr.guard t89_93 false).bind fun b99 =>
 (if b99 = true then pr.bin .neq t92_96 t94_98 else some LV.undef).bind fun t95_99 =>
 (pr.pick t89_93 (LV.bool true) t95_99).bind fun t96_100 =>
 condK t96_100 (
 pr.fin none u77.2 [(LV.bool false)]) (
 (pr.fieldAddr 1 1 t13_19.1).bind fun t97_102 =>
 (pr.load 1 false u77.2 t97_102).bind fun t98_103 =>
 (pr.fieldAddr 1 1 t16_45.1).bind fun t99_104 =>
 (pr.store 1 false u77.2 t99_104 t98_103).bind fun u105 =>
 (pr.load 17 true u105.2 t13_19.1).bind fun t100_106 =>
 (pr.load 17 true u105.2 t16_45.1).bind fun t101_107 =>
 (pr.eqS (Sh.agg [(Sh.int .i64), (Sh.int .i64), (Sh.int .i64), (Sh.int .i64), (Sh.int .i64), Sh.bool, Sh.bool, (Sh.bytes 4), (Sh.bytes 4), Sh.str, Sh.str]) false t100_106 t101_107).bind fun t102_108 =>
 pr.fin none u105.2 [t102_108])) (
 (pr.load 17 true u77.2 t13_19.1).bind fun t100_110 =>
 (pr.load 17 true u77.2 t16_45.1).bind fun t101_111 =>
 (pr.eqS (Sh.agg [(Sh.int .i64), (Sh.int .i64), (Sh.int .i64), (Sh.int .i64), (Sh.int .i64), Sh.bool, Sh.bool, (Sh.bytes 4), (Sh.bytes 4), Sh.str, Sh.str]) false t100_110 t101_111).bind fun t102_112 =>
 pr.fin none u77.2 [t102_112]))))) else none))
theorem F_interpreterlaw13_Head64Blind_eq (g : Call) (a0 : LV) (a1 : LV) (a2 : LV) (a3 : LV) (a4 : LV) (a5 : LV) : fnEv g c_interpreterlaw13_Head64Blind [a0, a1, a2, a3, a4, a5] none = F_interpreterlaw13_Head64Blind g a0 a1 a2 a3 a4 a5 := by kernel_rfl

/-- interpreter/interpreterlaw12.Head46Known -/
noncomputable def F_interpreterlaw12_Head46Known (g : Call) : Option (LV × Option LV) :=
 (pr.parts (LV.agg [(LV.int .i64 0), (LV.int .i64 0), (LV.int .i64 0), (LV.int .i64 0), (LV.int .i64 0), (LV.bool false), (LV.bool false), (LV.bytes [0, 0, 0, 0]), (LV.bytes [0, 0, 0, 0]), (LV.str []), (LV.str [])]) [(2, (LV.int .i64 9)), (3, (LV.int .i64 17)), (1, (LV.int .i64 7)), (4, (LV.int .i64 8)), (10, (LV.str [104, 105]))]).bind fun t14_1 =>
 (pr.parts (LV.bytes [0, 0, 0, 0, 0, 0, 0, 0, 0, 0, 0, 0, 0, 0, 0, 0]) []).bind fun t15_2 =>
 (pr.parts (LV.bytes [0, 0, 0, 0, 0, 0, 0, 0, 0, 0, 0, 0, 0, 0, 0, 0]) []).bind fun t16_3 =>
 (pr.call g id_head46_Head noSlots [t14_1, t15_2, t16_3]).bind fun t17_4 =>
 (pr.extract t17_4 0).bind fun t18_6 =>
 (pr.extract t17_4 1).bind fun t19_7 =>
 (pr.alloc (LV.agg [(LV.int .i64 0), (LV.int .i64 0), (LV.int .i64 0), (LV.bytes [0, 0, 0, 0, 0, 0, 0, 0, 0, 0, 0, 0, 0, 0, 0, 0]), (LV.bytes [0, 0, 0, 0, 0, 0, 0, 0, 0, 0, 0, 0, 0, 0, 0, 0]), LV.nils, (LV.bool false), (LV.int .u32 0), (LV.int .i64 0), (LV.bool false), (LV.int .i64 0), (LV.str [])]) 1 noSlots).bind fun t1_8 =>
 (pr.store 42 true t1_8.2 t1_8.1 t18_6).bind fun u9 =>
 (pr.parts (LV.agg [(LV.int .i64 0), (LV.int .i64 0), (LV.int .i64 0), (LV.int .i64 0), (LV.int .i64 0), (LV.bool false), (LV.bool false), (LV.bytes [0, 0, 0, 0]), (LV.bytes [0, 0, 0, 0]), (LV.str []), (LV.str [])]) [(2, (LV.int .i64 1)), (3, (LV.int .i64 17))]).bind fun t21_11 =>
 (pr.parts (LV.bytes [0, 0, 0, 0, 0, 0, 0, 0, 0, 0, 0, 0, 0, 0, 0, 0]) []).bind fun t22_12 =>
 (pr.parts (LV.bytes [0, 0, 0, 0, 0, 0, 0, 0, 0, 0, 0, 0, 0, 0, 0, 0]) []).bind fun t23_13 =>
 (pr.call g id_head46_Head u9.2 [t21_11, t22_12, t23_13]).bind fun t24_14 =>
 (pr.extract t24_14 0).bind fun t25_16 =>
 (pr.extract t24_14 1).bind fun t26_17 =>
 (pr.alloc (LV.agg [(LV.int .i64 0), (LV.int .i64 0), (LV.int .i64 0), (LV.bytes [0, 0, 0, 0, 0, 0, 0, 0, 0, 0, 0, 0, 0, 0, 0, 0]), (LV.bytes [0, 0, 0, 0, 0, 0, 0, 0, 0, 0, 0, 0, 0, 0, 0, 0]), LV.nils, (LV.bool false), (LV.int .u32 0), (LV.int .i64 0), (LV.bool false), (LV.int .i64 0), (LV.str [])]) 3 u9.2).bind fun t3_18 =>
 (pr.store 42 true t3_18.2 t3_18.1 t25_16).bind fun u19 =>
 (pr.parts (LV.agg [(LV.int .i64 0), (LV.int .i64 0), (LV.int .i64 0), (LV.int .i64 0), (LV.int .i64 0), (LV.bool false), (LV.bool false), (LV.bytes [0, 0, 0, 0]), (LV.bytes [0, 0, 0, 0]), (LV.str []), (LV.str [])]) [(2, (LV.int .i64 2)), (3, (LV.int .i64 44))]).bind fun t28_21 =>
 (pr.parts (LV.bytes [0, 0, 0, 0, 0, 0, 0, 0, 0, 0, 0, 0, 0, 0, 0, 0]) []).bind fun t29_22 =>
 (pr.parts (LV.bytes [0, 0, 0, 0, 0, 0, 0, 0, 0, 0, 0, 0, 0, 0, 0, 0]) []).bind fun t30_23 =>
 (pr.call g id_head46_Head u19.2 [t28_21, t29_22, t30_23]).bind fun t31_24 =>
 (pr.extract t31_24 0).bind fun t32_26 =>
 (pr.extract t31_24 1).bind fun t33_27 =>
 (pr.alloc (LV.agg [(LV.int .i64 0), (LV.int .i64 0), (LV.int .i64 0), (LV.bytes [0, 0, 0, 0, 0, 0, 0, 0, 0, 0, 0, 0, 0, 0, 0, 0]), (LV.bytes [0, 0, 0, 0, 0, 0, 0, 0, 0, 0, 0, 0, 0, 0, 0, 0]), LV.nils, (LV.bool false), (LV.int .u32 0), (LV.int .i64 0), (LV.bool false), (LV.int .i64 0), (LV.str [])]) 5 u19.2).bind fun t5_28 =>
 (pr.store 42 true t5_28.2 t5_28.1 t32_26).bind fun u29 =>
 (pr.parts (LV.agg [(LV.int .i64 0), (LV.int .i64 0), (LV.int .i64 0), (LV.int .i64 0), (LV.int .i64 0), (LV.bool false), (LV.bool false), (LV.bytes [0, 0, 0, 0]), (LV.bytes [0, 0, 0, 0]), (LV.str []), (LV.str [])]) [(2, (LV.int .i64 2)), (3, (LV.int .i64 17)), (9, (LV.str [131, 3, 3, 0]))]).bind fun t35_31 =>
 (pr.parts (LV.bytes [0, 0, 0, 0, 0, 0, 0, 0, 0, 0, 0, 0, 0, 0, 0, 0]) []).bind fun t36_32 =>
 (pr.parts (LV.bytes [0, 0, 0, 0, 0, 0, 0, 0, 0, 0, 0, 0, 0, 0, 0, 0]) []).bind fun t37_33 =>
 (pr.call g id_head46_Head u29.2 [t35_31, t36_32, t37_33]).bind fun t38_34 =>
 (pr.extract t38_34 0).bind fun t39_36 =>
 (pr.extract t38_34 1).bind fun t40_37 =>
 (pr.alloc (LV.agg [(LV.int .i64 0), (LV.int .i64 0), (LV.int .i64 0), (LV.bytes [0, 0, 0, 0, 0, 0, 0, 0, 0, 0, 0, 0, 0, 0, 0, 0]), (LV.bytes [0, 0, 0, 0, 0, 0, 0, 0, 0, 0, 0, 0, 0, 0, 0, 0]), LV.nils, (LV.bool false), (LV.int .u32 0), (LV.int .i64 0), (LV.bool false), (LV.int .i64 0), (LV.str [])]) 7 u29.2).bind fun t7_38 =>
 (pr.store 42 true t7_38.2 t7_38.1 t39_36).bind fun u39 =>
 (pr.parts (LV.agg [(LV.int .i64 0), (LV.int .i64 0), (LV.int .i64 0), (LV.int .i64 0), (LV.int .i64 0), (LV.bool false), (LV.bool false), (LV.bytes [0, 0, 0, 0]), (LV.bytes [0, 0, 0, 0]), (LV.str []), (LV.str [])]) [(2, (LV.int .i64 2)), (3, (LV.int .i64 17)), (9, (LV.str [131]))]).bind fun t42_41 =>
 (pr.parts (LV.bytes [0, 0, 0, 0, 0, 0, 0, 0, 0, 0, 0, 0, 0, 0, 0, 0]) []).bind fun t43_42 =>
 (pr.parts (LV.bytes [0, 0, 0, 0, 0, 0, 0, 0, 0, 0, 0, 0, 0, 0, 0, 0]) []).bind fun t44_43 =>
 (pr.call g id_head46_Head u39.2 [t42_41, t43_42, t44_43]).bind fun t45_44 =>
 (pr.extract t45_44 0).bind fun t46_46 =>
 (pr.extract t45_44 1).bind fun t47_47 =>
 (pr.alloc (LV.agg [(LV.int .i64 0), (LV.int .i64 0), (LV.int .i64 0), (LV.bytes [0, 0, 0, 0, 0, 0, 0, 0, 0, 0, 0, 0, 0, 0, 0, 0]), (LV.bytes [0, 0, 0, 0, 0, 0, 0, 0, 0, 0, 0, 0, 0, 0, 0, 0]), LV.nils, (LV.bool false), (LV.int .u32 0), (LV.int .i64 0), (LV.bool false), (LV.int .i64 0), (LV.str [])]) 9 u39.2).bind fun t9_48 =>
 (pr.store 42 true t9_48.2 t9_48.1 t46_46).bind fun u49 =>
 (pr.parts (LV.agg [(LV.int .i64 0), (LV.int .i64 0), (LV.int .i64 0), (LV.int .i64 0), (LV.int .i64 0), (LV.bool false), (LV.bool false), (LV.bytes [0, 0, 0, 0]), (LV.bytes [0, 0, 0, 0]), (LV.str []), (LV.str [])]) [(2, (LV.int .i64 2)), (3, (LV.int .i64 17)), (9, (LV.str [131, 3, 4, 0]))]).bind fun t49_51 =>
 (pr.parts (LV.bytes [0, 0, 0, 0, 0, 0, 0, 0, 0, 0, 0, 0, 0, 0, 0, 0]) []).bind fun t50_52 =>
 (pr.parts (LV.bytes [0, 0, 0, 0, 0, 0, 0, 0, 0, 0, 0, 0, 0, 0, 0, 0]) []).bind fun t51_53 =>
 (pr.call g id_head46_Head u49.2 [t49_51, t50_52, t51_53]).bind fun t52_54 =>
 (pr.extract t52_54 0).bind fun t53_56 =>
 (pr.extract t52_54 1).bind fun t54_57 =>
 (pr.alloc (LV.agg [(LV.int .i64 0), (LV.int .i64 0), (LV.int .i64 0), (LV.bytes [0, 0, 0, 0, 0, 0, 0, 0, 0, 0, 0, 0, 0, 0, 0, 0]), (LV.bytes [0, 0, 0, 0, 0, 0, 0, 0, 0, 0, 0, 0, 0, 0, 0, 0]), LV.nils, (LV.bool false), (LV.int .u32 0), (LV.int .i64 0), (LV.bool false), (LV.int .i64 0), (LV.str [])]) 11 u49.2).bind fun t11_58 =>
 (pr.store 42 true t11_58.2 t11_58.1 t53_56).bind fun u59 =>
 (pr.call g id_interpreterlaw12_awake u59.2 []).bind fun t55_61 =>
 (pr.guard t55_61 true).bind fun b63 =>
 (if b63 = true then some t19_7 else some LV.undef).bind fun t57_63 =>
 (pr.guard t55_61 true).bind fun b64 =>
 (if b64 = true then pr.eqNil 1 false t57_63 else some LV.undef).bind fun t58_64 =>
 (pr.pick t55_61 t58_64 (LV.bool false)).bind fun t59_65 =>
 (pr.guard t59_65 true).bind fun b67 =>
 (if b67 = true then pr.load 42 true u59.2 t1_8.1 else some LV.undef).bind fun t61_67 =>
 (pr.guard t59_65 true).bind fun b68 =>
 (if b68 = true then pr.parts (LV.agg [(LV.int .i64 0), (LV.int .i64 0), (LV.int .i64 0), (LV.bytes [0, 0, 0, 0, 0, 0, 0, 0, 0, 0, 0, 0, 0, 0, 0, 0]), (LV.bytes [0, 0, 0, 0, 0, 0, 0, 0, 0, 0, 0, 0, 0, 0, 0, 0]), LV.nils, (LV.bool false), (LV.int .u32 0), (LV.int .i64 0), (LV.bool false), (LV.int .i64 0), (LV.str [])]) [(2, (LV.int .i64 8)), (6, (LV.bool true)), (7, (LV.int .u32 7)), (8, (LV.int .i64 8)), (10, (LV.int .i64 17)), (11, (LV.str [104, 105]))] else some LV.undef).bind fun t62_68 =>
 (pr.guard t59_65 true).bind fun b69 =>
 (if b69 = true then pr.call g id_interpreterref04_Same u59.2 [t61_67, t62_68] else some LV.undef).bind fun t63_69 =>
 (pr.pick t59_65 t63_69 (LV.bool false)).bind fun t64_70 =>
 (pr.guard t64_70 true).bind fun b72 =>
 (if b72 = true then some t26_17 else some LV.undef).bind fun t66_72 =>
 (pr.guard t64_70 true).bind fun b73 =>
 (if b73 = true then pr.call g id_interpreterlaw12_same u59.2 [t66_72, (LV.int .i64 13)] else some LV.undef).bind fun t67_73 =>
 (pr.pick t64_70 t67_73 (LV.bool false)).bind fun t68_74 =>
 (pr.guard t68_74 true).bind fun b76 =>
 (if b76 = true then some t33_27 else some LV.undef).bind fun t70_76 =>
 (pr.guard t68_74 true).bind fun b77 =>
 (if b77 = true then pr.call g id_interpreterlaw12_same u59.2 [t70_76, (LV.int .i64 10)] else some LV.undef).bind fun t71_77 =>
 (pr.pick t68_74 t71_77 (LV.bool false)).bind fun t72_78 =>
 (pr.guard t72_78 true).bind fun b80 =>
 (if b80 = true then some t40_37 else some LV.undef).bind fun t74_80 =>
 (pr.guard t72_78 true).bind fun b81 =>
 (if b81 = true then pr.call g id_interpreterlaw12_same u59.2 [t74_80, (LV.int .i64 10)] else some LV.undef).bind fun t75_81 =>
 (pr.pick t72_78 t75_81 (LV.bool false)).bind fun t76_82 =>
 (pr.guard t76_82 true).bind fun b84 =>
 (if b84 = true then some t47_47 else some LV.undef).bind fun t78_84 =>
 (pr.guard t76_82 true).bind fun b85 =>
 (if b85 = true then pr.call g id_interpreterlaw12_same u59.2 [t78_84, (LV.int .i64 8)] else some LV.undef).bind fun t79_85 =>
 (pr.pick t76_82 t79_85 (LV.bool false)).bind fun t80_86 =>
 (pr.guard t80_86 true).bind fun b88 =>
 (if b88 = true then some t54_57 else some LV.undef).bind fun t82_88 =>
 (pr.guard t80_86 true).bind fun b89 =>
 (if b89 = true then pr.eqNil 1 false t82_88 else some LV.undef).bind fun t83_89 =>
 (pr.pick t80_86 t83_89 (LV.bool false)).bind fun t84_90 =>
 pr.fin none u59.2 [t84_90]
theorem F_interpreterlaw12_Head46Known_eq (g : Call) : fnEv g c_interpreterlaw12_Head46Known [] none = F_interpreterlaw12_Head46Known g := by kernel_rfl

/-- interpreter/interpreterlaw12.Head46Does -/
noncomputable def F_interpreterlaw12_Head46Does (g : Call) (a0 : LV) (a1 : LV) (a2 : LV) (a3 : LV) : Option (LV × Option LV) :=
 (pr.box a0).bind fun t4_0 =>
 (pr.box a1).bind fun t5_1 =>
 (pr.box a2).bind fun t6_2 =>
 (pr.call g id_interpreterlaw12_awake noSlots []).bind fun t17_4 =>
 (pr.un .not t17_4).bind fun t18_5 =>
 condK t18_5 (
 pr.fin none noSlots [(LV.bool false)]) (
 (pr.fieldAddr 10 16 t4_0).bind fun t19_7 =>
 (pr.load 1 false noSlots t19_7).bind fun t20_8 =>
 (pr.len true t20_8).bind fun t21_9 =>
 (pr.bin .gtr t21_9 (LV.int .i64 70000)).bind fun t22_10 =>
 (pr.guard t22_10 false).bind fun b12 =>
 (if b12 = true then pr.fieldAddr 9 15 t4_0 else some LV.undef).bind fun t24_12 =>
 (pr.guard t22_10 false).bind fun b13 =>
 (if b13 = true then pr.load 1 false noSlots t24_12 else some LV.undef).bind fun t25_13 =>
 (pr.guard t22_10 false).bind fun b14 =>
 (if b14 = true then pr.len true t25_13 else some LV.undef).bind fun t26_14 =>
 (pr.guard t22_10 false).bind fun b15 =>
 (if b15 = true then pr.bin .gtr t26_14 (LV.int .i64 1000) else some LV.undef).bind fun t27_15 =>
 (pr.pick t22_10 (LV.bool true) t27_15).bind fun t28_16 =>
 condK t28_16 (
 pr.fin none noSlots [(LV.bool true)]) (
 (pr.load 17 true noSlots t4_0).bind fun t30_18 =>
 (pr.load 16 true noSlots t5_1).bind fun t31_19 =>
 (pr.load 16 true noSlots t6_2).bind fun t32_20 =>
 (pr.call g id_head46_Head noSlots [t30_18, t31_19, t32_20]).bind fun t33_21 =>
 (pr.extract t33_21 0).bind fun t34_23 =>
 (pr.extract t33_21 1).bind fun t35_24 =>
 (pr.alloc (LV.agg [(LV.int .i64 0), (LV.int .i64 0), (LV.int .i64 0), (LV.bytes [0, 0, 0, 0, 0, 0, 0, 0, 0, 0, 0, 0, 0, 0, 0, 0]), (LV.bytes [0, 0, 0, 0, 0, 0, 0, 0, 0, 0, 0, 0, 0, 0, 0, 0]), LV.nils, (LV.bool false), (LV.int .u32 0), (LV.int .i64 0), (LV.bool false), (LV.int .i64 0), (LV.str [])]) 9 noSlots).bind fun t9_25 =>
 (pr.store 42 true t9_25.2 t9_25.1 t34_23).bind fun u26 =>
 (pr.load 17 true u26.2 t4_0).bind fun t37_28 =>
 (pr.load 16 true u26.2 t5_1).bind fun t38_29 =>
 (pr.load 16 true u26.2 t6_2).bind fun t39_30 =>
 (pr.call g id_interpreterref12_Head u26.2 [t37_28, t38_29, t39_30]).bind fun t40_31 =>
 (pr.extract t40_31 0).bind fun t41_33 =>
 (pr.extract t40_31 1).bind fun t42_34 =>
 (pr.alloc (LV.agg [(LV.int .i64 0), (LV.int .i64 0), (LV.int .i64 0), (LV.bytes [0, 0, 0, 0, 0, 0, 0, 0, 0, 0, 0, 0, 0, 0, 0, 0]), (LV.bytes [0, 0, 0, 0, 0, 0, 0, 0, 0, 0, 0, 0, 0, 0, 0, 0]), LV.nils, (LV.bool false), (LV.int .u32 0), (LV.int .i64 0), (LV.bool false), (LV.int .i64 0), (LV.str [])]) 11 u26.2).bind fun t11_35 =>
 (pr.store 42 true t11_35.2 t11_35.1 t41_33).bind fun u36 =>
 (pr.call g id_head46_Proto u36.2 [a3]).bind fun t45_39 =>
 (pr.extract t45_39 0).bind fun t46_41 =>
 (pr.extract t45_39 1).bind fun t47_42 =>
 (pr.call g id_interpreterref12_Proto u36.2 [a3]).bind fun t50_46 =>
 (pr.extract t50_46 0).bind fun t51_48 =>
 (pr.extract t50_46 1).bind fun t52_49 =>
 (pr.load 42 true u36.2 t9_25.1).bind fun t53_52 =>
 (pr.load 42 true u36.2 t11_35.1).bind fun t54_53 =>
 (pr.call g id_interpreterref04_Same u36.2 [t53_52, t54_53]).bind fun t55_54 =>
 (pr.guard t55_54 true).bind fun b56 =>
 (if b56 = true then some t35_24 else some LV.undef).bind fun t57_56 =>
 (pr.guard t55_54 true).bind fun b57 =>
 (if b57 = true then some t42_34 else some LV.undef).bind fun t58_57 =>
 (pr.guard t55_54 true).bind fun b58 =>
 (if b58 = true then pr.call g id_interpreterlaw12_same u36.2 [t57_56, t58_57] else some LV.undef).bind fun t59_58 =>
 (pr.pick t55_54 t59_58 (LV.bool false)).bind fun t60_59 =>
 (pr.guard t60_59 true).bind fun b61 =>
 (if b61 = true then some t46_41 else some LV.undef).bind fun t62_61 =>
 (pr.guard t60_59 true).bind fun b62 =>
 (if b62 = true then some t51_48 else some LV.undef).bind fun t63_62 =>
 (pr.guard t60_59 true).bind fun b63 =>
 (if b63 = true then pr.bin .eql t62_61 t63_62 else some LV.undef).bind fun t64_63 =>
 (pr.pick t60_59 t64_63 (LV.bool false)).bind fun t65_64 =>
 (pr.guard t65_64 true).bind fun b66 =>
 (if b66 = true then some t47_42 else some LV.undef).bind fun t67_66 =>
 (pr.guard t65_64 true).bind fun b67 =>
 (if b67 = true then some t52_49 else some LV.undef).bind fun t68_67 =>
 (pr.guard t65_64 true).bind fun b68 =>
 (if b68 = true then pr.eqB false t67_66 t68_67 else some LV.undef).bind fun t69_68 =>
 (pr.pick t65_64 t69_68 (LV.bool false)).bind fun t70_69 =>
 pr.fin none u36.2 [t70_69]))
theorem F_interpreterlaw12_Head46Does_eq (g : Call) (a0 : LV) (a1 : LV) (a2 : LV) (a3 : LV) : fnEv g c_interpreterlaw12_Head46Does [a0, a1, a2, a3] none = F_interpreterlaw12_Head46Does g a0 a1 a2 a3 := by kernel_rfl

/-- interpreter/interpreterlaw13.Head64Again -/
noncomputable def F_interpreterlaw13_Head64Again (g : Call) (a0 : LV) (a1 : LV) (a2 : LV) (a3 : LV) : Option (LV × Option LV) :=
 (pr.box a0).bind fun t4_0 =>
 (pr.box a1).bind fun t5_1 =>
 (pr.box a2).bind fun t6_2 =>
 (pr.call g id_interpreterlaw13_awake noSlots []).bind fun t14_4 =>
 (pr.un .not t14_4).bind fun t15_5 =>
 condK t15_5 (
 pr.fin none noSlots [(LV.bool false)]) (
 (pr.fieldAddr 10 16 t4_0).bind fun t16_7 =>
 (pr.load 1 false noSlots t16_7).bind fun t17_8 =>
 (pr.len true t17_8).bind fun t18_9 =>
 (pr.bin .gtr t18_9 (LV.int .i64 70000)).bind fun t19_10 =>
 (pr.guard t19_10 false).bind fun b12 =>
 (if b12 = true then pr.fieldAddr 9 15 t4_0 else some LV.undef).bind fun t21_12 =>
 (pr.guard t19_10 false).bind fun b13 =>
 (if b13 = true then pr.load 1 false noSlots t21_12 else some LV.undef).bind fun t22_13 =>
 (pr.guard t19_10 false).bind fun b14 =>
 (if b14 = true then pr.len true t22_13 else some LV.undef).bind fun t23_14 =>
 (pr.guard t19_10 false).bind fun b15 =>
 (if b15 = true then pr.bin .gtr t23_14 (LV.int .i64 1000) else some LV.undef).bind fun t24_15 =>
 (pr.pick t19_10 (LV.bool true) t24_15).bind fun t25_16 =>
 (pr.guard t25_16 false).bind fun b18 =>
 (if b18 = true then pr.fieldAddr 4 4 t4_0 else some LV.undef).bind fun t27_18 =>
 (pr.guard t25_16 false).bind fun b19 =>
 (if b19 = true then pr.load 1 false noSlots t27_18 else some LV.undef).bind fun t28_19 =>
 (pr.guard t25_16 false).bind fun b20 =>
 (if b20 = true then pr.bin .lss t28_19 (LV.int .i64 0) else some LV.undef).bind fun t29_20 =>
 (pr.pick t25_16 (LV.bool true) t29_20).bind fun t30_21 =>
 (pr.guard t30_21 false).bind fun b23 =>
 (if b23 = true then pr.fieldAddr 1 1 t4_0 else some LV.undef).bind fun t32_23 =>
 (pr.guard t30_21 false).bind fun b24 =>
 (if b24 = true then pr.load 1 false noSlots t32_23 else some LV.undef).bind fun t33_24 =>
 (pr.guard t30_21 false).bind fun b25 =>
 (if b25 = true then pr.bin .lss t33_24 (LV.int .i64 0) else some LV.undef).bind fun t34_25 =>
 (pr.pick t30_21 (LV.bool true) t34_25).bind fun t35_26 =>
 (pr.guard t35_26 false).bind fun b28 =>
 (if b28 = true then pr.fieldAddr 1 1 t4_0 else some LV.undef).bind fun t37_28 =>
 (pr.guard t35_26 false).bind fun b29 =>
 (if b29 = true then pr.load 1 false noSlots t37_28 else some LV.undef).bind fun t38_29 =>
 (pr.guard t35_26 false).bind fun b30 =>
 (if b30 = true then pr.bin .gtr t38_29 (LV.int .i64 65535) else some LV.undef).bind fun t39_30 =>
 (pr.pick t35_26 (LV.bool true) t39_30).bind fun t40_31 =>
 condK t40_31 (
 pr.fin none noSlots [(LV.bool true)]) (
 (pr.load 17 true noSlots t4_0).bind fun t42_33 =>
 (pr.load 16 true noSlots t5_1).bind fun t43_34 =>
 (pr.load 16 true noSlots t6_2).bind fun t44_35 =>
 (pr.call g id_head46_Head noSlots [t42_33, t43_34, t44_35]).bind fun t45_36 =>
 (pr.extract t45_36 0).bind fun t46_38 =>
 (pr.extract t45_36 1).bind fun t47_39 =>
 (pr.alloc (LV.agg [(LV.int .i64 0), (LV.int .i64 0), (LV.int .i64 0), (LV.bytes [0, 0, 0, 0, 0, 0, 0, 0, 0, 0, 0, 0, 0, 0, 0, 0]), (LV.bytes [0, 0, 0, 0, 0, 0, 0, 0, 0, 0, 0, 0, 0, 0, 0, 0]), LV.nils, (LV.bool false), (LV.int .u32 0), (LV.int .i64 0), (LV.bool false), (LV.int .i64 0), (LV.str [])]) 9 noSlots).bind fun t9_40 =>
 (pr.store 42 true t9_40.2 t9_40.1 t46_38).bind fun u41 =>
 (pr.eqNil 1 true t47_39).bind fun t49_44 =>
 condK t49_44 (
 pr.fin none u41.2 [(LV.bool true)]) (
 (pr.load 42 true u41.2 t9_40.1).bind fun t51_46 =>
 (pr.fieldAddr 7 7 t4_0).bind fun t52_47 =>
 (pr.load 4 true u41.2 t52_47).bind fun t53_48 =>
 (pr.fieldAddr 8 11 t4_0).bind fun t54_49 =>
 (pr.load 4 true u41.2 t54_49).bind fun t55_50 =>
 (pr.conv .i64 a3).bind fun t57_52 =>
 (pr.call g id_head64_Head u41.2 [t51_46, t53_48, t55_50, t57_52]).bind fun t58_53 =>
 (pr.extract t58_53 0).bind fun t59_55 =>
 (pr.extract t58_53 1).bind fun t60_56 =>
 (pr.alloc (LV.agg [(LV.int .i64 0), (LV.int .i64 0), (LV.int .i64 0), (LV.int .i64 0), (LV.int .i64 0), (LV.bool false), (LV.bool false), (LV.bytes [0, 0, 0, 0]), (LV.bytes [0, 0, 0, 0]), (LV.str []), (LV.str [])]) 11 u41.2).bind fun t11_57 =>
 (pr.store 17 true t11_57.2 t11_57.1 t59_55).bind fun u58 =>
 (pr.fieldAddr 2 2 t4_0).bind fun t61_60 =>
 (pr.load 1 false u58.2 t61_60).bind fun t62_61 =>
 (pr.bin .lss t62_61 (LV.int .i64 3)).bind fun t63_62 =>
 condK t63_62 (
 (pr.eqNil 1 true t60_56).bind fun t65_64 =>
 pr.fin none u58.2 [t65_64]) (
 (pr.eqNil 1 true t60_56).bind fun t67_67 =>
 condK t67_67 (
 (pr.fieldAddr 4 4 t4_0).bind fun t68_68 =>
 (pr.load 1 false u58.2 t68_68).bind fun t69_69 =>
 (pr.fieldAddr 10 16 t4_0).bind fun t70_70 =>
 (pr.load 1 false u58.2 t70_70).bind fun t71_71 =>
 (pr.len true t71_71).bind fun t72_72 =>
 (pr.bin .sub (LV.int .i64 65515) t72_72).bind fun t73_73 =>
 (pr.bin .gtr t69_69 t73_73).bind fun t74_74 =>
 pr.fin none u58.2 [t74_74]) (
 (pr.load 17 true u58.2 t4_0).bind fun t75_76 =>
 (pr.alloc (LV.agg [(LV.int .i64 0), (LV.int .i64 0), (LV.int .i64 0), (LV.int .i64 0), (LV.int .i64 0), (LV.bool false), (LV.bool false), (LV.bytes [0, 0, 0, 0]), (LV.bytes [0, 0, 0, 0]), (LV.str []), (LV.str [])]) 13 u58.2).bind fun t13_77 =>
 (pr.store 17 true t13_77.2 t13_77.1 t75_76).bind fun u78 =>
 (pr.fieldAddr 2 2 t4_0).bind fun t76_79 =>
 (pr.load 1 false u78.2 t76_79).bind fun t77_80 =>
 (pr.bin .sub t77_80 (LV.int .i64 2)).bind fun t78_81 =>
 (pr.fieldAddr 2 2 t13_77.1).bind fun t79_82 =>
 (pr.store 1 false u78.2 t79_82 t78_81).bind fun u83 =>
 (pr.fieldAddr 9 15 t13_77.1).bind fun t80_84 =>
 (pr.store 1 false u83.2 t80_84 (LV.str [])).bind fun u85 =>
 (pr.fieldAddr 5 5 t13_77.1).bind fun t81_86 =>
 (pr.store 1 false u85.2 t81_86 (LV.bool false)).bind fun u87 =>
 (pr.fieldAddr 6 6 t4_0).bind fun t82_88 =>
 (pr.load 1 false u87.2 t82_88).bind fun t83_89 =>
 (pr.un .not t83_89).bind fun t84_90 =>
 (pr.guard t84_90 true).bind fun b92 =>
 (if b92 = true then pr.fieldAddr 4 4 t4_0 else some LV.undef).bind fun t86_92 =>
 (pr.guard t84_90 true).bind fun b93 =>
 (if b93 = true then pr.load 1 false u87.2 t86_92 else some LV.undef).bind fun t87_93 =>
 (pr.guard t84_90 true).bind fun b94 =>
 (if b94 = true then pr.bin .eql t87_93 (LV.int .i64 0) else some LV.undef).bind fun t88_94 =>
 (pr.pick t84_90 t88_94 (LV.bool false)).bind fun t89_95 =>
 condK t89_95 (
 (pr.fieldAddr 10 16 t4_0).bind fun t90_96 =>
 (pr.load 1 false u87.2 t90_96).bind fun t91_97 =>
 (pr.len true t91_97).bind fun t92_98 =>
 (pr.bin .gtr t92_98 (LV.int .i64 1240)).bind fun t93_99 =>
 (pr.fieldAddr 5 5 t13_77.1).bind fun t94_100 =>
 (pr.store 1 false u87.2 t94_100 t93_99).bind fun u101 =>
 (pr.conv .i64 a3).bind fun t96_103 =>
 (pr.fieldAddr 1 1 t13_77.1).bind fun t97_104 =>
 (pr.store 1 false u101.2 t97_104 t96_103).bind fun u105 =>
 (pr.fieldAddr 5 5 t13_77.1).bind fun t98_106 =>
 (pr.load 1 false u105.2 t98_106).bind fun t99_107 =>
 condK t99_107 (
 (pr.fieldAddr 1 1 t13_77.1).bind fun t100_108 =>
 (pr.store 1 false u105.2 t100_108 (LV.int .i64 0)).bind fun u109 =>
 (pr.load 17 true u109.2 t11_57.1).bind fun t101_110 =>
 (pr.load 17 true u109.2 t13_77.1).bind fun t102_111 =>
 (pr.eqS (Sh.agg [(Sh.int .i64), (Sh.int .i64), (Sh.int .i64), (Sh.int .i64), (Sh.int .i64), Sh.bool, Sh.bool, (Sh.bytes 4), (Sh.bytes 4), Sh.str, Sh.str]) false t101_110 t102_111).bind fun t103_112 =>
 pr.fin none u109.2 [t103_112]) (
 (pr.load 17 true u105.2 t11_57.1).bind fun t101_114 =>
 (pr.load 17 true u105.2 t13_77.1).bind fun t102_115 =>
 (pr.eqS (Sh.agg [(Sh.int .i64), (Sh.int .i64), (Sh.int .i64), (Sh.int .i64), (Sh.int .i64), Sh.bool, Sh.bool, (Sh.bytes 4), (Sh.bytes 4), Sh.str, Sh.str]) false t101_114 t102_115).bind fun t103_116 =>
 pr.fin none u105.2 [t103_116])) (
 (pr.load 17 true u87.2 t11_57.1).bind fun t101_118 =>
 (pr.load 17 true u87.2 t13_77.1).bind fun t102_119 =>
 (pr.eqS (Sh.agg [(Sh.int .i64), (Sh.int .i64), (Sh.int .i64), (Sh.int .i64), (Sh.int .i64), Sh.bool, Sh.bool, (Sh.bytes 4), (Sh.bytes 4), Sh.str, Sh.str]) false t101_118 t102_119).bind fun t103_120 =>
 pr.fin none u87.2 [t103_120]))))))
theorem F_interpreterlaw13_Head64Again_eq (g : Call) (a0 : LV) (a1 : LV) (a2 : LV) (a3 : LV) : fnEv g c_interpreterlaw13_Head64Again [a0, a1, a2, a3] none = F_interpreterlaw13_Head64Again g a0 a1 a2 a3 := by kernel_rfl

/-- interpreter/interpreterlaw13.Head64Proto -/
noncomputable def F_interpreterlaw13_Head64Proto (g : Call) (a0 : LV) (a1 : LV) : Option (LV × Option LV) :=
 (pr.boxM a1 3 noSlots).bind fun t3_0 =>
 (pr.call g id_interpreterlaw13_awake t3_0.2 []).bind fun t11_2 =>
 (pr.un .not t11_2).bind fun t12_3 =>
 condK t12_3 (
 pr.fin none t3_0.2 [(LV.bool false)]) (
 (pr.fieldAddr 10 16 t3_0.1).bind fun t13_5 =>
 (pr.load 1 false t3_0.2 t13_5).bind fun t14_6 =>
 (pr.len true t14_6).bind fun t15_7 =>
 (pr.bin .gtr t15_7 (LV.int .i64 3000)).bind fun t16_8 =>
 (pr.guard t16_8 false).bind fun b10 =>
 (if b10 = true then pr.fieldAddr 9 15 t3_0.1 else some LV.undef).bind fun t18_10 =>
 (pr.guard t16_8 false).bind fun b11 =>
 (if b11 = true then pr.load 1 false t3_0.2 t18_10 else some LV.undef).bind fun t19_11 =>
 (pr.guard t16_8 false).bind fun b12 =>
 (if b12 = true then pr.len true t19_11 else some LV.undef).bind fun t20_12 =>
 (pr.guard t16_8 false).bind fun b13 =>
 (if b13 = true then pr.bin .gtr t20_12 (LV.int .i64 1000) else some LV.undef).bind fun t21_13 =>
 (pr.pick t16_8 (LV.bool true) t21_13).bind fun t22_14 =>
 condK t22_14 (
 pr.fin none t3_0.2 [(LV.bool true)]) (
 (pr.call g id_head46_Proto t3_0.2 [a0]).bind fun t25_17 =>
 (pr.extract t25_17 0).bind fun t26_19 =>
 (pr.extract t25_17 1).bind fun t27_20 =>
 (pr.call g id_head64_Proto t3_0.2 [t26_19]).bind fun t30_24 =>
 (pr.extract t30_24 0).bind fun t31_26 =>
 (pr.extract t30_24 1).bind fun t32_27 =>
 (pr.fieldAddr 3 3 t3_0.1).bind fun t34_31 =>
 (pr.store 1 false t3_0.2 t34_31 a0).bind fun u32 =>
 (pr.load 17 true u32.2 t3_0.1).bind fun t36_33 =>
 (pr.parts (LV.bytes [0, 0, 0, 0, 0, 0, 0, 0, 0, 0, 0, 0, 0, 0, 0, 0]) []).bind fun t37_34 =>
 (pr.parts (LV.bytes [0, 0, 0, 0, 0, 0, 0, 0, 0, 0, 0, 0, 0, 0, 0, 0]) []).bind fun t38_35 =>
 (pr.call g id_head46_Head u32.2 [t36_33, t37_34, t38_35]).bind fun t39_36 =>
 (pr.extract t39_36 0).bind fun t40_38 =>
 (pr.extract t39_36 1).bind fun t41_39 =>
 (pr.alloc (LV.agg [(LV.int .i64 0), (LV.int .i64 0), (LV.int .i64 0), (LV.bytes [0, 0, 0, 0, 0, 0, 0, 0, 0, 0, 0, 0, 0, 0, 0, 0]), (LV.bytes [0, 0, 0, 0, 0, 0, 0, 0, 0, 0, 0, 0, 0, 0, 0, 0]), LV.nils, (LV.bool false), (LV.int .u32 0), (LV.int .i64 0), (LV.bool false), (LV.int .i64 0), (LV.str [])]) 9 u32.2).bind fun t9_40 =>
 (pr.store 42 true t9_40.2 t9_40.1 t40_38).bind fun u41 =>
 (pr.un .not t27_20).bind fun t43_44 =>
 condK t43_44 (
 (pr.bin .eql t26_19 (LV.int .i64 0)).bind fun t45_46 =>
 (pr.guard t45_46 true).bind fun b48 =>
 (if b48 = true then some t41_39 else some LV.undef).bind fun t47_48 =>
 (pr.guard t45_46 true).bind fun b49 =>
 (if b49 = true then pr.eqNil 1 true t47_48 else some LV.undef).bind fun t48_49 =>
 (pr.pick t45_46 t48_49 (LV.bool false)).bind fun t49_50 =>
 (pr.guard t49_50 true).bind fun b52 =>
 (if b52 = true then pr.load 42 true u41.2 t9_40.1 else some LV.undef).bind fun t51_52 =>
 (pr.guard t49_50 true).bind fun b53 =>
 (if b53 = true then pr.parts (LV.agg [(LV.int .i64 0), (LV.int .i64 0), (LV.int .i64 0), (LV.bytes [0, 0, 0, 0, 0, 0, 0, 0, 0, 0, 0, 0, 0, 0, 0, 0]), (LV.bytes [0, 0, 0, 0, 0, 0, 0, 0, 0, 0, 0, 0, 0, 0, 0, 0]), LV.nils, (LV.bool false), (LV.int .u32 0), (LV.int .i64 0), (LV.bool false), (LV.int .i64 0), (LV.str [])]) [] else some LV.undef).bind fun t52_53 =>
 (pr.guard t49_50 true).bind fun b54 =>
 (if b54 = true then pr.call g id_interpreterref04_Same u41.2 [t51_52, t52_53] else some LV.undef).bind fun t53_54 =>
 (pr.pick t49_50 t53_54 (LV.bool false)).bind fun t54_55 =>
 pr.fin none u41.2 [t54_55]) (
 (pr.guard t32_27 true).bind fun b59 =>
 (if b59 = true then some t31_26 else some LV.undef).bind fun t57_59 =>
 (pr.guard t32_27 true).bind fun b60 =>
 (if b60 = true then some a0 else some LV.undef).bind fun t58_60 =>
 (pr.guard t32_27 true).bind fun b61 =>
 (if b61 = true then pr.bin .eql t57_59 t58_60 else some LV.undef).bind fun t59_61 =>
 (pr.pick t32_27 t59_61 (LV.bool false)).bind fun t60_62 =>
 (pr.guard t60_62 true).bind fun b64 =>
 (if b64 = true then some t41_39 else some LV.undef).bind fun t62_64 =>
 (pr.guard t60_62 true).bind fun b65 =>
 (if b65 = true then pr.eqNil 1 true t62_64 else some LV.undef).bind fun t63_65 =>
 (pr.guard t60_62 true).bind fun b66 =>
 (if b66 = true then some t63_65 else some LV.undef).bind fun t64_66 =>
 (pr.guard t64_66 false).bind fun b67 =>
 (if b67 = true then pr.fieldAddr 10 40 t9_40.1 else some LV.undef).bind fun t65_67 =>
 (pr.guard t64_66 false).bind fun b68 =>
 (if b68 = true then pr.load 1 false u41.2 t65_67 else some LV.undef).bind fun t66_68 =>
 (pr.guard t64_66 false).bind fun b69 =>
 (if b69 = true then some t26_19 else some LV.undef).bind fun t67_69 =>
 (pr.guard t64_66 false).bind fun b70 =>
 (if b70 = true then pr.bin .eql t66_68 t67_69 else some LV.undef).bind fun t68_70 =>
 (pr.guard t60_62 true).bind fun b71 =>
 (if b71 = true then pr.pick t64_66 (LV.bool true) t68_70 else some LV.undef).bind fun t69_71 =>
 (pr.pick t60_62 t69_71 (LV.bool false)).bind fun t70_72 =>
 (pr.guard t70_72 true).bind fun b74 =>
 (if b74 = true then some t26_19 else some LV.undef).bind fun t72_74 =>
 (pr.guard t70_72 true).bind fun b75 =>
 (if b75 = true then some a0 else some LV.undef).bind fun t73_75 =>
 (pr.guard t70_72 true).bind fun b76 =>
 (if b76 = true then pr.bin .eql t72_74 t73_75 else some LV.undef).bind fun t74_76 =>
 (pr.guard t70_72 true).bind fun b77 =>
 (if b77 = true then some t74_76 else some LV.undef).bind fun t75_77 =>
 (pr.guard t75_77 false).bind fun b78 =>
 (if b78 = true then some a0 else some LV.undef).bind fun t76_78 =>
 (pr.guard t75_77 false).bind fun b79 =>
 (if b79 = true then pr.bin .eql t76_78 (LV.int .i64 1) else some LV.undef).bind fun t77_79 =>
 (pr.guard t75_77 false).bind fun b80 =>
 (if b80 = true then some t77_79 else some LV.undef).bind fun t78_80 =>
 (pr.guard t78_80 true).bind fun b81 =>
 (if b81 = true then some t26_19 else some LV.undef).bind fun t79_81 =>
 (pr.guard t78_80 true).bind fun b82 =>
 (if b82 = true then pr.bin .eql t79_81 (LV.int .i64 58) else some LV.undef).bind fun t80_82 =>
 (pr.guard t75_77 false).bind fun b83 =>
 (if b83 = true then pr.pick t78_80 t80_82 (LV.bool false) else some LV.undef).bind fun t81_83 =>
 (pr.guard t70_72 true).bind fun b84 =>
 (if b84 = true then pr.pick t75_77 (LV.bool true) t81_83 else some LV.undef).bind fun t82_84 =>
 (pr.pick t70_72 t82_84 (LV.bool false)).bind fun t83_85 =>
 pr.fin none u41.2 [t83_85])))
theorem F_interpreterlaw13_Head64Proto_eq (g : Call) (a0 : LV) (a1 : LV) : fnEv g c_interpreterlaw13_Head64Proto [a0, a1] none = F_interpreterlaw13_Head64Proto g a0 a1 := by kernel_rfl

/-- interpreter/interpreterlaw12.Head46Blind -/
noncomputable def F_interpreterlaw12_Head46Blind (g : Call) (a0 : LV) (a1 : LV) (a2 : LV) : Option (LV × Option LV) :=
 (pr.box a0).bind fun t3_0 =>
 (pr.box a1).bind fun t4_1 =>
 (pr.box a2).bind fun t5_2 =>
 (pr.call g id_interpreterlaw12_awake noSlots []).bind fun t20_4 =>
 (pr.un .not t20_4).bind fun t21_5 =>
 condK t21_5 (
 pr.fin none noSlots [(LV.bool false)]) (
 (pr.fieldAddr 10 16 t3_0).bind fun t22_7 =>
 (pr.load 1 false noSlots t22_7).bind fun t23_8 =>
 (pr.len true t23_8).bind fun t24_9 =>
 (pr.bin .gtr t24_9 (LV.int .i64 70000)).bind fun t25_10 =>
 (pr.guard t25_10 false).bind fun b12 =>
 (if b12 = true then pr.fieldAddr 9 15 t3_0 else some LV.undef).bind fun t27_12 =>
 (pr.guard t25_10 false).bind fun b13 =>
 (if b13 = true then pr.load 1 false noSlots t27_12 else some LV.undef).bind fun t28_13 =>
 (pr.guard t25_10 false).bind fun b14 =>
 (if b14 = true then pr.len true t28_13 else some LV.undef).bind fun t29_14 =>
 (pr.guard t25_10 false).bind fun b15 =>
 (if b15 = true then pr.bin .gtr t29_14 (LV.int .i64 1000) else some LV.undef).bind fun t30_15 =>
 (pr.pick t25_10 (LV.bool true) t30_15).bind fun t31_16 =>
 condK t31_16 (
 pr.fin none noSlots [(LV.bool true)]) (
 (pr.load 17 true noSlots t3_0).bind fun t33_18 =>
 (pr.load 16 true noSlots t4_1).bind fun t34_19 =>
 (pr.load 16 true noSlots t5_2).bind fun t35_20 =>
 (pr.call g id_head46_Head noSlots [t33_18, t34_19, t35_20]).bind fun t36_21 =>
 (pr.extract t36_21 0).bind fun t37_23 =>
 (pr.extract t36_21 1).bind fun t38_24 =>
 (pr.alloc (LV.agg [(LV.int .i64 0), (LV.int .i64 0), (LV.int .i64 0), (LV.bytes [0, 0, 0, 0, 0, 0, 0, 0, 0, 0, 0, 0, 0, 0, 0, 0]), (LV.bytes [0, 0, 0, 0, 0, 0, 0, 0, 0, 0, 0, 0, 0, 0, 0, 0]), LV.nils, (LV.bool false), (LV.int .u32 0), (LV.int .i64 0), (LV.bool false), (LV.int .i64 0), (LV.str [])]) 7 noSlots).bind fun t7_25 =>
 (pr.store 42 true t7_25.2 t7_25.1 t37_23).bind fun u26 =>
 (pr.load 17 true u26.2 t3_0).bind fun t39_28 =>
 (pr.alloc (LV.agg [(LV.int .i64 0), (LV.int .i64 0), (LV.int .i64 0), (LV.int .i64 0), (LV.int .i64 0), (LV.bool false), (LV.bool false), (LV.bytes [0, 0, 0, 0]), (LV.bytes [0, 0, 0, 0]), (LV.str []), (LV.str [])]) 9 u26.2).bind fun t9_29 =>
 (pr.store 17 true t9_29.2 t9_29.1 t39_28).bind fun u30 =>
 (pr.fieldAddr 5 5 t3_0).bind fun t40_31 =>
 (pr.load 1 false u30.2 t40_31).bind fun t41_32 =>
 (pr.un .not t41_32).bind fun t42_33 =>
 (pr.fieldAddr 5 5 t9_29.1).bind fun t43_34 =>
 (pr.store 1 false u30.2 t43_34 t42_33).bind fun u35 =>
 (pr.fieldAddr 8 11 t3_0).bind fun t44_36 =>
 (pr.load 4 true u35.2 t44_36).bind fun t45_37 =>
 (pr.fieldAddr 7 7 t3_0).bind fun t46_38 =>
 (pr.load 4 true u35.2 t46_38).bind fun t47_39 =>
 (pr.fieldAddr 7 7 t9_29.1).bind fun t48_40 =>
 (pr.store 4 true u35.2 t48_40 t45_37).bind fun u41 =>
 (pr.fieldAddr 8 11 t9_29.1).bind fun t49_42 =>
 (pr.store 4 true u41.2 t49_42 t47_39).bind fun u43 =>
 if noMeet t46_38 t48_40 = true then ((pr.load 17 true u43.2 t9_29.1).bind fun t51_44 =>
 (pr.load 16 true u43.2 t4_1).bind fun t52_45 =>
 (pr.load 16 true u43.2 t5_2).bind fun t53_46 =>
 (pr.call g id_head46_Head u43.2 [t51_44, t52_45, t53_46]).bind fun t54_47 =>
 (pr.extract t54_47 0).bind fun t55_49 =>
 (pr.extract t54_47 1).bind fun t56_50 =>
 (pr.alloc (LV.agg [(LV.int .i64 0), (LV.int .i64 0), (LV.int .i64 0), (LV.bytes [0, 0, 0, 0, 0, 0, 0, 0, 0, 0, 0, 0, 0, 0, 0, 0]), (LV.bytes [0, 0, 0, 0, 0, 0, 0, 0, 0, 0, 0, 0, 0, 0, 0, 0]), LV.nils, (LV.bool false), (LV.int .u32 0), (LV.int .i64 0), (LV.bool false), (LV.int .i64 0), (LV.str [])]) 10 u43.2).bind fun t10_51 =>
 (pr.store 42 true t10_51.2 t10_51.1 t55_49).bind fun u52 =>
 (pr.fieldAddr 9 15 t9_29.1).bind fun t57_54 =>
 (pr.store 1 false u52.2 t57_54 (LV.str [])).bind fun u55 =>
 (pr.load 17 true u55.2 t9_29.1).bind fun t59_56 =>
 (pr.load 16 true u55.2 t4_1).bind fun t60_57 =>
 (pr.load 16 true u55.2 t5_2).bind fun t61_58 =>
 (pr.call g id_head46_Head u55.2 [t59_56, t60_57, t61_58]).bind fun t62_59 =>
 (pr.extract t62_59 0).bind fun t63_61 =>
 (pr.extract t62_59 1).bind fun t64_62 =>
 (pr.alloc (LV.agg [(LV.int .i64 0), (LV.int .i64 0), (LV.int .i64 0), (LV.bytes [0, 0, 0, 0, 0, 0, 0, 0, 0, 0, 0, 0, 0, 0, 0, 0]), (LV.bytes [0, 0, 0, 0, 0, 0, 0, 0, 0, 0, 0, 0, 0, 0, 0, 0]), LV.nils, (LV.bool false), (LV.int .u32 0), (LV.int .i64 0), (LV.bool false), (LV.int .i64 0), (LV.str [])]) 12 u55.2).bind fun t12_63 =>
 (pr.store 42 true t12_63.2 t12_63.1 t63_61).bind fun u64 =>
 (pr.eqNil 1 false t38_24).bind fun t66_67 =>
 (pr.eqNil 1 false t56_50).bind fun t68_69 =>
 (pr.eqB true t66_67 t68_69).bind fun t69_70 =>
 (pr.guard t69_70 false).bind fun b72 =>
 (if b72 = true then some t38_24 else some LV.undef).bind fun t71_72 =>
 (pr.guard t69_70 false).bind fun b73 =>
 (if b73 = true then pr.eqNil 1 false t71_72 else some LV.undef).bind fun t72_73 =>
 (pr.guard t69_70 false).bind fun b74 =>
 (if b74 = true then some t72_73 else some LV.undef).bind fun t73_74 =>
 (pr.guard t73_74 true).bind fun b75 =>
 (if b75 = true then some t64_62 else some LV.undef).bind fun t74_75 =>
 (pr.guard t73_74 true).bind fun b76 =>
 (if b76 = true then pr.eqNil 1 true t74_75 else some LV.undef).bind fun t75_76 =>
 (pr.guard t69_70 false).bind fun b77 =>
 (if b77 = true then pr.pick t73_74 t75_76 (LV.bool false) else some LV.undef).bind fun t76_77 =>
 (pr.pick t69_70 (LV.bool true) t76_77).bind fun t77_78 =>
 condK t77_78 (
 pr.fin none u64.2 [(LV.bool false)]) (
 (pr.load 42 true u64.2 t7_25.1).bind fun t79_80 =>
 (pr.call g id_ip6_Bytes u64.2 [t79_80]).bind fun t80_81 =>
 (pr.extract t80_81 0).bind fun t81_83 =>
 (pr.extract t80_81 1).bind fun t82_84 =>
 (pr.load 42 true u64.2 t10_51.1).bind fun t84_87 =>
 (pr.call g id_ip6_Bytes u64.2 [t84_87]).bind fun t85_88 =>
 (pr.extract t85_88 0).bind fun t86_90 =>
 (pr.extract t85_88 1).bind fun t87_91 =>
 (pr.load 42 true u64.2 t12_63.1).bind fun t89_94 =>
 (pr.call g id_ip6_Bytes u64.2 [t89_94]).bind fun t90_95 =>
 (pr.extract t90_95 0).bind fun t91_97 =>
 (pr.extract t90_95 1).bind fun t92_98 =>
 (pr.eqNil 1 false t82_84).bind fun t94_102 =>
 (pr.eqNil 1 false t87_91).bind fun t96_104 =>
 (pr.eqB false t94_102 t96_104).bind fun t97_105 =>
 (pr.guard t97_105 true).bind fun b107 =>
 (if b107 = true then some t81_83 else some LV.undef).bind fun t99_107 =>
 (pr.guard t97_105 true).bind fun b108 =>
 (if b108 = true then some t86_90 else some LV.undef).bind fun t100_108 =>
 (pr.guard t97_105 true).bind fun b109 =>
 (if b109 = true then pr.bin .eql t99_107 t100_108 else some LV.undef).bind fun t101_109 =>
 (pr.pick t97_105 t101_109 (LV.bool false)).bind fun t102_110 =>
 (pr.guard t102_110 true).bind fun b112 =>
 (if b112 = true then some t38_24 else some LV.undef).bind fun t104_112 =>
 (pr.guard t102_110 true).bind fun b113 =>
 (if b113 = true then pr.eqNil 1 true t104_112 else some LV.undef).bind fun t105_113 =>
 (pr.guard t102_110 true).bind fun b114 =>
 (if b114 = true then some t105_113 else some LV.undef).bind fun t106_114 =>
 (pr.guard t106_114 false).bind fun b115 =>
 (if b115 = true then some t82_84 else some LV.undef).bind fun t107_115 =>
 (pr.guard t106_114 false).bind fun b116 =>
 (if b116 = true then pr.eqNil 1 false t107_115 else some LV.undef).bind fun t108_116 =>
 (pr.guard t106_114 false).bind fun b117 =>
 (if b117 = true then some t92_98 else some LV.undef).bind fun t109_117 =>
 (pr.guard t106_114 false).bind fun b118 =>
 (if b118 = true then pr.eqNil 1 false t109_117 else some LV.undef).bind fun t110_118 =>
 (pr.guard t106_114 false).bind fun b119 =>
 (if b119 = true then pr.eqB false t108_116 t110_118 else some LV.undef).bind fun t111_119 =>
 (pr.guard t106_114 false).bind fun b120 =>
 (if b120 = true then some t111_119 else some LV.undef).bind fun t112_120 =>
 (pr.guard t112_120 true).bind fun b121 =>
 (if b121 = true then some t81_83 else some LV.undef).bind fun t113_121 =>
 (pr.guard t112_120 true).bind fun b122 =>
 (if b122 = true then some t91_97 else some LV.undef).bind fun t114_122 =>
 (pr.guard t112_120 true).bind fun b123 =>
 (if b123 = true then pr.bin .eql t113_121 t114_122 else some LV.undef).bind fun t115_123 =>
 (pr.guard t106_114 false).bind fun b124 =>
 (if b124 = true then pr.pick t112_120 t115_123 (LV.bool false) else some LV.undef).bind fun t116_124 =>
 (pr.guard t102_110 true).bind fun b125 =>
 (if b125 = true then pr.pick t106_114 (LV.bool true) t116_124 else some LV.undef).bind fun t117_125 =>
 (pr.pick t102_110 t117_125 (LV.bool false)).bind fun t118_126 =>
 pr.fin none u64.2 [t118_126])) else none))
theorem F_interpreterlaw12_Head46Blind_eq (g : Call) (a0 : LV) (a1 : LV) (a2 : LV) : fnEv g c_interpreterlaw12_Head46Blind [a0, a1, a2] none = F_interpreterlaw12_Head46Blind g a0 a1 a2 := by kernel_rfl

/-- interpreter/interpreterlaw13.Head64Known -/
noncomputable def F_interpreterlaw13_Head64Known (g : Call) : Option (LV × Option LV) :=
 (pr.parts (LV.agg [(LV.int .i64 0), (LV.int .i64 0), (LV.int .i64 0), (LV.bytes [0, 0, 0, 0, 0, 0, 0, 0, 0, 0, 0, 0, 0, 0, 0, 0]), (LV.bytes [0, 0, 0, 0, 0, 0, 0, 0, 0, 0, 0, 0, 0, 0, 0, 0]), LV.nils, (LV.bool false), (LV.int .u32 0), (LV.int .i64 0), (LV.bool false), (LV.int .i64 0), (LV.str [])]) [(2, (LV.int .i64 9)), (6, (LV.bool true)), (7, (LV.int .u32 65543)), (8, (LV.int .i64 8)), (10, (LV.int .i64 17)), (11, (LV.str [104, 105]))]).bind fun t17_1 =>
 (pr.parts (LV.bytes [0, 0, 0, 0]) []).bind fun t18_2 =>
 (pr.parts (LV.bytes [0, 0, 0, 0]) []).bind fun t19_3 =>
 (pr.call g id_head64_Head noSlots [t17_1, t18_2, t19_3, (LV.int .i64 9)]).bind fun t20_4 =>
 (pr.extract t20_4 0).bind fun t21_6 =>
 (pr.extract t20_4 1).bind fun t22_7 =>
 (pr.alloc (LV.agg [(LV.int .i64 0), (LV.int .i64 0), (LV.int .i64 0), (LV.int .i64 0), (LV.int .i64 0), (LV.bool false), (LV.bool false), (LV.bytes [0, 0, 0, 0]), (LV.bytes [0, 0, 0, 0]), (LV.str []), (LV.str [])]) 1 noSlots).bind fun t1_8 =>
 (pr.store 17 true t1_8.2 t1_8.1 t21_6).bind fun u9 =>
 (pr.call g id_strings_Repeat u9.2 [(LV.str [120]), (LV.int .i64 1241)]).bind fun t23_11 =>
 (pr.parts (LV.agg [(LV.int .i64 0), (LV.int .i64 0), (LV.int .i64 0), (LV.bytes [0, 0, 0, 0, 0, 0, 0, 0, 0, 0, 0, 0, 0, 0, 0, 0]), (LV.bytes [0, 0, 0, 0, 0, 0, 0, 0, 0, 0, 0, 0, 0, 0, 0, 0]), LV.nils, (LV.bool false), (LV.int .u32 0), (LV.int .i64 0), (LV.bool false), (LV.int .i64 0), (LV.str [])]) [(2, (LV.int .i64 9)), (10, (LV.int .i64 17)), (11, t23_11)]).bind fun t24_12 =>
 (pr.alloc (LV.agg [(LV.int .i64 0), (LV.int .i64 0), (LV.int .i64 0), (LV.bytes [0, 0, 0, 0, 0, 0, 0, 0, 0, 0, 0, 0, 0, 0, 0, 0]), (LV.bytes [0, 0, 0, 0, 0, 0, 0, 0, 0, 0, 0, 0, 0, 0, 0, 0]), LV.nils, (LV.bool false), (LV.int .u32 0), (LV.int .i64 0), (LV.bool false), (LV.int .i64 0), (LV.str [])]) 3 u9.2).bind fun t3_13 =>
 (pr.store 42 true t3_13.2 t3_13.1 t24_12).bind fun u14 =>
 (pr.load 42 true u14.2 t3_13.1).bind fun t26_15 =>
 (pr.parts (LV.bytes [0, 0, 0, 0]) []).bind fun t27_16 =>
 (pr.parts (LV.bytes [0, 0, 0, 0]) []).bind fun t28_17 =>
 (pr.call g id_head64_Head u14.2 [t26_15, t27_16, t28_17, (LV.int .i64 9)]).bind fun t29_18 =>
 (pr.extract t29_18 0).bind fun t30_20 =>
 (pr.extract t29_18 1).bind fun t31_21 =>
 (pr.alloc (LV.agg [(LV.int .i64 0), (LV.int .i64 0), (LV.int .i64 0), (LV.int .i64 0), (LV.int .i64 0), (LV.bool false), (LV.bool false), (LV.bytes [0, 0, 0, 0]), (LV.bytes [0, 0, 0, 0]), (LV.str []), (LV.str [])]) 4 u14.2).bind fun t4_22 =>
 (pr.store 17 true t4_22.2 t4_22.1 t30_20).bind fun u23 =>
 (pr.parts (LV.agg [(LV.int .i64 0), (LV.int .i64 0), (LV.int .i64 0), (LV.bytes [0, 0, 0, 0, 0, 0, 0, 0, 0, 0, 0, 0, 0, 0, 0, 0]), (LV.bytes [0, 0, 0, 0, 0, 0, 0, 0, 0, 0, 0, 0, 0, 0, 0, 0]), LV.nils, (LV.bool false), (LV.int .u32 0), (LV.int .i64 0), (LV.bool false), (LV.int .i64 0), (LV.str [])]) [(2, (LV.int .i64 1)), (10, (LV.int .i64 17))]).bind fun t33_25 =>
 (pr.parts (LV.bytes [0, 0, 0, 0]) []).bind fun t34_26 =>
 (pr.parts (LV.bytes [0, 0, 0, 0]) []).bind fun t35_27 =>
 (pr.call g id_head64_Head u23.2 [t33_25, t34_26, t35_27, (LV.int .i64 9)]).bind fun t36_28 =>
 (pr.extract t36_28 0).bind fun t37_30 =>
 (pr.extract t36_28 1).bind fun t38_31 =>
 (pr.alloc (LV.agg [(LV.int .i64 0), (LV.int .i64 0), (LV.int .i64 0), (LV.int .i64 0), (LV.int .i64 0), (LV.bool false), (LV.bool false), (LV.bytes [0, 0, 0, 0]), (LV.bytes [0, 0, 0, 0]), (LV.str []), (LV.str [])]) 6 u23.2).bind fun t6_32 =>
 (pr.store 17 true t6_32.2 t6_32.1 t37_30).bind fun u33 =>
 (pr.parts (LV.agg [(LV.int .i64 0), (LV.int .i64 0), (LV.int .i64 0), (LV.bytes [0, 0, 0, 0, 0, 0, 0, 0, 0, 0, 0, 0, 0, 0, 0, 0]), (LV.bytes [0, 0, 0, 0, 0, 0, 0, 0, 0, 0, 0, 0, 0, 0, 0, 0]), LV.nils, (LV.bool false), (LV.int .u32 0), (LV.int .i64 0), (LV.bool false), (LV.int .i64 0), (LV.str [])]) [(2, (LV.int .i64 9)), (10, (LV.int .i64 1))]).bind fun t40_35 =>
 (pr.parts (LV.bytes [0, 0, 0, 0]) []).bind fun t41_36 =>
 (pr.parts (LV.bytes [0, 0, 0, 0]) []).bind fun t42_37 =>
 (pr.call g id_head64_Head u33.2 [t40_35, t41_36, t42_37, (LV.int .i64 9)]).bind fun t43_38 =>
 (pr.extract t43_38 0).bind fun t44_40 =>
 (pr.extract t43_38 1).bind fun t45_41 =>
 (pr.alloc (LV.agg [(LV.int .i64 0), (LV.int .i64 0), (LV.int .i64 0), (LV.int .i64 0), (LV.int .i64 0), (LV.bool false), (LV.bool false), (LV.bytes [0, 0, 0, 0]), (LV.bytes [0, 0, 0, 0]), (LV.str []), (LV.str [])]) 8 u33.2).bind fun t8_42 =>
 (pr.store 17 true t8_42.2 t8_42.1 t44_40).bind fun u43 =>
 (pr.parts (LV.agg [(LV.int .i64 0), (LV.str [])]) [(0, (LV.int .i64 43)), (1, (LV.str [0, 1]))]).bind fun t47_45 =>
 (pr.bsl (LV.agg [(LV.int .i64 0), (LV.str [])]) 1 [(0, t47_45)]).bind fun t48_46 =>
 (pr.parts (LV.agg [(LV.int .i64 0), (LV.int .i64 0), (LV.int .i64 0), (LV.bytes [0, 0, 0, 0, 0, 0, 0, 0, 0, 0, 0, 0, 0, 0, 0, 0]), (LV.bytes [0, 0, 0, 0, 0, 0, 0, 0, 0, 0, 0, 0, 0, 0, 0, 0]), LV.nils, (LV.bool false), (LV.int .u32 0), (LV.int .i64 0), (LV.bool false), (LV.int .i64 0), (LV.str [])]) [(2, (LV.int .i64 9)), (10, (LV.int .i64 17)), (5, t48_46)]).bind fun t49_47 =>
 (pr.parts (LV.bytes [0, 0, 0, 0]) []).bind fun t50_48 =>
 (pr.parts (LV.bytes [0, 0, 0, 0]) []).bind fun t51_49 =>
 (pr.call g id_head64_Head u43.2 [t49_47, t50_48, t51_49, (LV.int .i64 9)]).bind fun t52_50 =>
 (pr.extract t52_50 0).bind fun t53_52 =>
 (pr.extract t52_50 1).bind fun t54_53 =>
 (pr.alloc (LV.agg [(LV.int .i64 0), (LV.int .i64 0), (LV.int .i64 0), (LV.int .i64 0), (LV.int .i64 0), (LV.bool false), (LV.bool false), (LV.bytes [0, 0, 0, 0]), (LV.bytes [0, 0, 0, 0]), (LV.str []), (LV.str [])]) 10 u43.2).bind fun t10_54 =>
 (pr.store 17 true t10_54.2 t10_54.1 t53_52).bind fun u55 =>
 (pr.call g id_strings_Repeat u55.2 [(LV.str [120]), (LV.int .i64 65516)]).bind fun t56_57 =>
 (pr.parts (LV.agg [(LV.int .i64 0), (LV.int .i64 0), (LV.int .i64 0), (LV.bytes [0, 0, 0, 0, 0, 0, 0, 0, 0, 0, 0, 0, 0, 0, 0, 0]), (LV.bytes [0, 0, 0, 0, 0, 0, 0, 0, 0, 0, 0, 0, 0, 0, 0, 0]), LV.nils, (LV.bool false), (LV.int .u32 0), (LV.int .i64 0), (LV.bool false), (LV.int .i64 0), (LV.str [])]) [(2, (LV.int .i64 9)), (10, (LV.int .i64 17)), (11, t56_57)]).bind fun t57_58 =>
 (pr.parts (LV.bytes [0, 0, 0, 0]) []).bind fun t58_59 =>
 (pr.parts (LV.bytes [0, 0, 0, 0]) []).bind fun t59_60 =>
 (pr.call g id_head64_Head u55.2 [t57_58, t58_59, t59_60, (LV.int .i64 9)]).bind fun t60_61 =>
 (pr.extract t60_61 0).bind fun t61_63 =>
 (pr.extract t60_61 1).bind fun t62_64 =>
 (pr.alloc (LV.agg [(LV.int .i64 0), (LV.int .i64 0), (LV.int .i64 0), (LV.int .i64 0), (LV.int .i64 0), (LV.bool false), (LV.bool false), (LV.bytes [0, 0, 0, 0]), (LV.bytes [0, 0, 0, 0]), (LV.str []), (LV.str [])]) 12 u55.2).bind fun t12_65 =>
 (pr.store 17 true t12_65.2 t12_65.1 t61_63).bind fun u66 =>
 (pr.call g id_strings_Repeat u66.2 [(LV.str [120]), (LV.int .i64 65515)]).bind fun t64_68 =>
 (pr.parts (LV.agg [(LV.int .i64 0), (LV.int .i64 0), (LV.int .i64 0), (LV.bytes [0, 0, 0, 0, 0, 0, 0, 0, 0, 0, 0, 0, 0, 0, 0, 0]), (LV.bytes [0, 0, 0, 0, 0, 0, 0, 0, 0, 0, 0, 0, 0, 0, 0, 0]), LV.nils, (LV.bool false), (LV.int .u32 0), (LV.int .i64 0), (LV.bool false), (LV.int .i64 0), (LV.str [])]) [(2, (LV.int .i64 9)), (10, (LV.int .i64 17)), (11, t64_68)]).bind fun t65_69 =>
 (pr.parts (LV.bytes [0, 0, 0, 0]) []).bind fun t66_70 =>
 (pr.parts (LV.bytes [0, 0, 0, 0]) []).bind fun t67_71 =>
 (pr.call g id_head64_Head u66.2 [t65_69, t66_70, t67_71, (LV.int .i64 9)]).bind fun t68_72 =>
 (pr.extract t68_72 0).bind fun t69_74 =>
 (pr.extract t68_72 1).bind fun t70_75 =>
 (pr.alloc (LV.agg [(LV.int .i64 0), (LV.int .i64 0), (LV.int .i64 0), (LV.int .i64 0), (LV.int .i64 0), (LV.bool false), (LV.bool false), (LV.bytes [0, 0, 0, 0]), (LV.bytes [0, 0, 0, 0]), (LV.str []), (LV.str [])]) 14 u66.2).bind fun t14_76 =>
 (pr.store 17 true t14_76.2 t14_76.1 t69_74).bind fun u77 =>
 (pr.call g id_interpreterlaw13_awake u77.2 []).bind fun t71_79 =>
 (pr.guard t71_79 true).bind fun b81 =>
 (if b81 = true then some t22_7 else some LV.undef).bind fun t73_81 =>
 (pr.guard t71_79 true).bind fun b82 =>
 (if b82 = true then pr.eqNil 1 false t73_81 else some LV.undef).bind fun t74_82 =>
 (pr.pick t71_79 t74_82 (LV.bool false)).bind fun t75_83 =>
 (pr.guard t75_83 true).bind fun b85 =>
 (if b85 = true then pr.load 17 true u77.2 t1_8.1 else some LV.undef).bind fun t77_85 =>
 (pr.guard t75_83 true).bind fun b86 =>
 (if b86 = true then pr.parts (LV.agg [(LV.int .i64 0), (LV.int .i64 0), (LV.int .i64 0), (LV.int .i64 0), (LV.int .i64 0), (LV.bool false), (LV.bool false), (LV.bytes [0, 0, 0, 0]), (LV.bytes [0, 0, 0, 0]), (LV.str []), (LV.str [])]) [(2, (LV.int .i64 8)), (3, (LV.int .i64 17)), (1, (LV.int .i64 7)), (4, (LV.int .i64 8)), (10, (LV.str [104, 105]))] else some LV.undef).bind fun t78_86 =>
 (pr.guard t75_83 true).bind fun b87 =>
 (if b87 = true then pr.eqS (Sh.agg [(Sh.int .i64), (Sh.int .i64), (Sh.int .i64), (Sh.int .i64), (Sh.int .i64), Sh.bool, Sh.bool, (Sh.bytes 4), (Sh.bytes 4), Sh.str, Sh.str]) false t77_85 t78_86 else some LV.undef).bind fun t79_87 =>
 (pr.pick t75_83 t79_87 (LV.bool false)).bind fun t80_88 =>
 (pr.guard t80_88 true).bind fun b90 =>
 (if b90 = true then some t31_21 else some LV.undef).bind fun t82_90 =>
 (pr.guard t80_88 true).bind fun b91 =>
 (if b91 = true then pr.eqNil 1 false t82_90 else some LV.undef).bind fun t83_91 =>
 (pr.pick t80_88 t83_91 (LV.bool false)).bind fun t84_92 =>
 (pr.guard t84_92 true).bind fun b94 =>
 (if b94 = true then pr.load 17 true u77.2 t4_22.1 else some LV.undef).bind fun t86_94 =>
 (pr.guard t84_92 true).bind fun b95 =>
 (if b95 = true then pr.fieldAddr 11 41 t3_13.1 else some LV.undef).bind fun t87_95 =>
 (pr.guard t84_92 true).bind fun b96 =>
 (if b96 = true then pr.load 1 false u77.2 t87_95 else some LV.undef).bind fun t88_96 =>
 (pr.guard t84_92 true).bind fun b97 =>
 (if b97 = true then pr.parts (LV.agg [(LV.int .i64 0), (LV.int .i64 0), (LV.int .i64 0), (LV.int .i64 0), (LV.int .i64 0), (LV.bool false), (LV.bool false), (LV.bytes [0, 0, 0, 0]), (LV.bytes [0, 0, 0, 0]), (LV.str []), (LV.str [])]) [(2, (LV.int .i64 8)), (3, (LV.int .i64 17)), (5, (LV.bool true)), (10, t88_96)] else some LV.undef).bind fun t89_97 =>
 (pr.guard t84_92 true).bind fun b98 =>
 (if b98 = true then pr.eqS (Sh.agg [(Sh.int .i64), (Sh.int .i64), (Sh.int .i64), (Sh.int .i64), (Sh.int .i64), Sh.bool, Sh.bool, (Sh.bytes 4), (Sh.bytes 4), Sh.str, Sh.str]) false t86_94 t89_97 else some LV.undef).bind fun t90_98 =>
 (pr.pick t84_92 t90_98 (LV.bool false)).bind fun t91_99 =>
 (pr.guard t91_99 true).bind fun b101 =>
 (if b101 = true then pr.load 42 true u77.2 t3_13.1 else some LV.undef).bind fun t93_101 =>
 (pr.guard t91_99 true).bind fun b102 =>
 (if b102 = true then pr.call g id_head64_Wants u77.2 [t93_101] else some LV.undef).bind fun t94_102 =>
 (pr.guard t91_99 true).bind fun b103 =>
 (if b103 = true then pr.un .not t94_102 else some LV.undef).bind fun t95_103 =>
 (pr.pick t91_99 t95_103 (LV.bool false)).bind fun t96_104 =>
 (pr.guard t96_104 true).bind fun b106 =>
 (if b106 = true then pr.fieldAddr 11 41 t3_13.1 else some LV.undef).bind fun t98_106 =>
 (pr.guard t96_104 true).bind fun b107 =>
 (if b107 = true then pr.load 1 false u77.2 t98_106 else some LV.undef).bind fun t99_107 =>
 (pr.guard t96_104 true).bind fun b108 =>
 (if b108 = true then pr.slc 0 t99_107 (some (LV.int .i64 1)) none else some LV.undef).bind fun t100_108 =>
 (pr.guard t96_104 true).bind fun b109 =>
 (if b109 = true then pr.parts (LV.agg [(LV.int .i64 0), (LV.int .i64 0), (LV.int .i64 0), (LV.bytes [0, 0, 0, 0, 0, 0, 0, 0, 0, 0, 0, 0, 0, 0, 0, 0]), (LV.bytes [0, 0, 0, 0, 0, 0, 0, 0, 0, 0, 0, 0, 0, 0, 0, 0]), LV.nils, (LV.bool false), (LV.int .u32 0), (LV.int .i64 0), (LV.bool false), (LV.int .i64 0), (LV.str [])]) [(11, t100_108)] else some LV.undef).bind fun t101_109 =>
 (pr.guard t96_104 true).bind fun b110 =>
 (if b110 = true then pr.call g id_head64_Wants u77.2 [t101_109] else some LV.undef).bind fun t102_110 =>
 (pr.pick t96_104 t102_110 (LV.bool false)).bind fun t103_111 =>
 (pr.guard t103_111 true).bind fun b113 =>
 (if b113 = true then some t38_31 else some LV.undef).bind fun t105_113 =>
 (pr.guard t103_111 true).bind fun b114 =>
 (if b114 = true then pr.call g id_interpreterlaw13_same u77.2 [t105_113, (LV.int .i64 13)] else some LV.undef).bind fun t106_114 =>
 (pr.pick t103_111 t106_114 (LV.bool false)).bind fun t107_115 =>
 (pr.guard t107_115 true).bind fun b117 =>
 (if b117 = true then some t45_41 else some LV.undef).bind fun t109_117 =>
 (pr.guard t107_115 true).bind fun b118 =>
 (if b118 = true then pr.call g id_interpreterlaw13_same u77.2 [t109_117, (LV.int .i64 10)] else some LV.undef).bind fun t110_118 =>
 (pr.pick t107_115 t110_118 (LV.bool false)).bind fun t111_119 =>
 (pr.guard t111_119 true).bind fun b121 =>
 (if b121 = true then some t54_53 else some LV.undef).bind fun t113_121 =>
 (pr.guard t111_119 true).bind fun b122 =>
 (if b122 = true then pr.call g id_interpreterlaw13_same u77.2 [t113_121, (LV.int .i64 10)] else some LV.undef).bind fun t114_122 =>
 (pr.pick t111_119 t114_122 (LV.bool false)).bind fun t115_123 =>
 (pr.guard t115_123 true).bind fun b125 =>
 (if b125 = true then some t62_64 else some LV.undef).bind fun t117_125 =>
 (pr.guard t115_123 true).bind fun b126 =>
 (if b126 = true then pr.call g id_interpreterlaw13_same u77.2 [t117_125, (LV.int .i64 3)] else some LV.undef).bind fun t118_126 =>
 (pr.pick t115_123 t118_126 (LV.bool false)).bind fun t119_127 =>
 (pr.guard t119_127 true).bind fun b129 =>
 (if b129 = true then some t70_75 else some LV.undef).bind fun t121_129 =>
 (pr.guard t119_127 true).bind fun b130 =>
 (if b130 = true then pr.eqNil 1 false t121_129 else some LV.undef).bind fun t122_130 =>
 (pr.pick t119_127 t122_130 (LV.bool false)).bind fun t123_131 =>
 pr.fin none u77.2 [t123_131]
theorem F_interpreterlaw13_Head64Known_eq (g : Call) : fnEv g c_interpreterlaw13_Head64Known [] none = F_interpreterlaw13_Head64Known g := by kernel_rfl

/-- interpreter/interpreterlaw12.Head46Goes -/
noncomputable def F_interpreterlaw12_Head46Goes (g : Call) (a0 : LV) (a1 : LV) (a2 : LV) : Option (LV × Option LV) :=
 (pr.box a1).bind fun t4_0 =>
 (pr.box a2).bind fun t5_1 =>
 (pr.call g id_interpreterlaw12_awake noSlots []).bind fun t13_3 =>
 (pr.un .not t13_3).bind fun t14_4 =>
 condK t14_4 (
 pr.fin none noSlots [(LV.bool false)]) (
 (pr.len true a0).bind fun t16_7 =>
 (pr.bin .gtr t16_7 (LV.int .i64 70000)).bind fun t17_8 =>
 condK t17_8 (
 pr.fin none noSlots [(LV.bool true)]) (
 (pr.call g id_ip4_Parse noSlots [a0]).bind fun t20_11 =>
 (pr.extract t20_11 0).bind fun t21_13 =>
 (pr.extract t20_11 1).bind fun t22_14 =>
 (pr.alloc (LV.agg [(LV.int .i64 0), (LV.int .i64 0), (LV.int .i64 0), (LV.int .i64 0), (LV.int .i64 0), (LV.bool false), (LV.bool false), (LV.bytes [0, 0, 0, 0]), (LV.bytes [0, 0, 0, 0]), (LV.str []), (LV.str [])]) 7 noSlots).bind fun t7_15 =>
 (pr.store 17 true t7_15.2 t7_15.1 t21_13).bind fun u16 =>
 (pr.eqNil 1 true t22_14).bind fun t24_19 =>
 condK t24_19 (
 pr.fin none u16.2 [(LV.bool true)]) (
 (pr.load 17 true u16.2 t7_15.1).bind fun t26_21 =>
 (pr.load 16 true u16.2 t4_0).bind fun t27_22 =>
 (pr.load 16 true u16.2 t5_1).bind fun t28_23 =>
 (pr.call g id_head46_Head u16.2 [t26_21, t27_22, t28_23]).bind fun t29_24 =>
 (pr.extract t29_24 0).bind fun t30_26 =>
 (pr.extract t29_24 1).bind fun t31_27 =>
 (pr.alloc (LV.agg [(LV.int .i64 0), (LV.int .i64 0), (LV.int .i64 0), (LV.bytes [0, 0, 0, 0, 0, 0, 0, 0, 0, 0, 0, 0, 0, 0, 0, 0]), (LV.bytes [0, 0, 0, 0, 0, 0, 0, 0, 0, 0, 0, 0, 0, 0, 0, 0]), LV.nils, (LV.bool false), (LV.int .u32 0), (LV.int .i64 0), (LV.bool false), (LV.int .i64 0), (LV.str [])]) 9 u16.2).bind fun t9_28 =>
 (pr.store 42 true t9_28.2 t9_28.1 t30_26).bind fun u29 =>
 (pr.eqNil 1 true t31_27).bind fun t33_32 =>
 condK t33_32 (
 (pr.fieldAddr 11 41 t9_28.1).bind fun t34_33 =>
 (pr.load 1 false u29.2 t34_33).bind fun t35_34 =>
 (pr.bin .eql t35_34 (LV.str [])).bind fun t36_35 =>
 (pr.guard t36_35 true).bind fun b37 =>
 (if b37 = true then pr.fieldAddr 2 2 t9_28.1 else some LV.undef).bind fun t38_37 =>
 (pr.guard t36_35 true).bind fun b38 =>
 (if b38 = true then pr.load 1 false u29.2 t38_37 else some LV.undef).bind fun t39_38 =>
 (pr.guard t36_35 true).bind fun b39 =>
 (if b39 = true then pr.bin .eql t39_38 (LV.int .i64 0) else some LV.undef).bind fun t40_39 =>
 (pr.pick t36_35 t40_39 (LV.bool false)).bind fun t41_40 =>
 (pr.guard t41_40 true).bind fun b42 =>
 (if b42 = true then pr.fieldAddr 6 36 t9_28.1 else some LV.undef).bind fun t43_42 =>
 (pr.guard t41_40 true).bind fun b43 =>
 (if b43 = true then pr.load 1 false u29.2 t43_42 else some LV.undef).bind fun t44_43 =>
 (pr.guard t41_40 true).bind fun b44 =>
 (if b44 = true then pr.un .not t44_43 else some LV.undef).bind fun t45_44 =>
 (pr.pick t41_40 t45_44 (LV.bool false)).bind fun t46_45 =>
 pr.fin none u29.2 [t46_45]) (
 (pr.load 42 true u29.2 t9_28.1).bind fun t48_47 =>
 (pr.call g id_ip6_Bytes u29.2 [t48_47]).bind fun t49_48 =>
 (pr.extract t49_48 0).bind fun t50_50 =>
 (pr.extract t49_48 1).bind fun t51_51 =>
 (pr.eqNil 1 false t51_51).bind fun t53_55 =>
 (pr.guard t53_55 true).bind fun b57 =>
 (if b57 = true then pr.fieldAddr 11 41 t9_28.1 else some LV.undef).bind fun t55_57 =>
 (pr.guard t53_55 true).bind fun b58 =>
 (if b58 = true then pr.load 1 false u29.2 t55_57 else some LV.undef).bind fun t56_58 =>
 (pr.guard t53_55 true).bind fun b59 =>
 (if b59 = true then pr.fieldAddr 10 16 t7_15.1 else some LV.undef).bind fun t57_59 =>
 (pr.guard t53_55 true).bind fun b60 =>
 (if b60 = true then pr.load 1 false u29.2 t57_59 else some LV.undef).bind fun t58_60 =>
 (pr.guard t53_55 true).bind fun b61 =>
 (if b61 = true then pr.bin .eql t56_58 t58_60 else some LV.undef).bind fun t59_61 =>
 (pr.pick t53_55 t59_61 (LV.bool false)).bind fun t60_62 =>
 (pr.guard t60_62 true).bind fun b64 =>
 (if b64 = true then pr.fieldAddr 2 2 t9_28.1 else some LV.undef).bind fun t62_64 =>
 (pr.guard t60_62 true).bind fun b65 =>
 (if b65 = true then pr.load 1 false u29.2 t62_64 else some LV.undef).bind fun t63_65 =>
 (pr.guard t60_62 true).bind fun b66 =>
 (if b66 = true then pr.fieldAddr 2 2 t7_15.1 else some LV.undef).bind fun t64_66 =>
 (pr.guard t60_62 true).bind fun b67 =>
 (if b67 = true then pr.load 1 false u29.2 t64_66 else some LV.undef).bind fun t65_67 =>
 (pr.guard t60_62 true).bind fun b68 =>
 (if b68 = true then pr.bin .sub t65_67 (LV.int .i64 1) else some LV.undef).bind fun t66_68 =>
 (pr.guard t60_62 true).bind fun b69 =>
 (if b69 = true then pr.bin .eql t63_65 t66_68 else some LV.undef).bind fun t67_69 =>
 (pr.pick t60_62 t67_69 (LV.bool false)).bind fun t68_70 =>
 (pr.guard t68_70 true).bind fun b72 =>
 (if b72 = true then pr.fieldAddr 2 2 t9_28.1 else some LV.undef).bind fun t70_72 =>
 (pr.guard t68_70 true).bind fun b73 =>
 (if b73 = true then pr.load 1 false u29.2 t70_72 else some LV.undef).bind fun t71_73 =>
 (pr.guard t68_70 true).bind fun b74 =>
 (if b74 = true then pr.bin .gtr t71_73 (LV.int .i64 0) else some LV.undef).bind fun t72_74 =>
 (pr.pick t68_70 t72_74 (LV.bool false)).bind fun t73_75 =>
 (pr.guard t73_75 true).bind fun b77 =>
 (if b77 = true then pr.fieldAddr 5 35 t9_28.1 else some LV.undef).bind fun t75_77 =>
 (pr.guard t73_75 true).bind fun b78 =>
 (if b78 = true then pr.load 1 false u29.2 t75_77 else some LV.undef).bind fun t76_78 =>
 (pr.guard t73_75 true).bind fun b79 =>
 (if b79 = true then pr.len false t76_78 else some LV.undef).bind fun t77_79 =>
 (pr.guard t73_75 true).bind fun b80 =>
 (if b80 = true then pr.bin .eql t77_79 (LV.int .i64 0) else some LV.undef).bind fun t78_80 =>
 (pr.pick t73_75 t78_80 (LV.bool false)).bind fun t79_81 =>
 (pr.guard t79_81 true).bind fun b83 =>
 (if b83 = true then pr.fieldAddr 3 3 t9_28.1 else some LV.undef).bind fun t81_83 =>
 (pr.guard t79_81 true).bind fun b84 =>
 (if b84 = true then pr.load 16 true u29.2 t81_83 else some LV.undef).bind fun t82_84 =>
 (pr.guard t79_81 true).bind fun b85 =>
 (if b85 = true then pr.load 16 true u29.2 t4_0 else some LV.undef).bind fun t83_85 =>
 (pr.guard t79_81 true).bind fun b86 =>
 (if b86 = true then pr.eqS (Sh.bytes 16) false t82_84 t83_85 else some LV.undef).bind fun t84_86 =>
 (pr.pick t79_81 t84_86 (LV.bool false)).bind fun t85_87 =>
 (pr.guard t85_87 true).bind fun b89 =>
 (if b89 = true then pr.fieldAddr 4 19 t9_28.1 else some LV.undef).bind fun t87_89 =>
 (pr.guard t85_87 true).bind fun b90 =>
 (if b90 = true then pr.load 16 true u29.2 t87_89 else some LV.undef).bind fun t88_90 =>
 (pr.guard t85_87 true).bind fun b91 =>
 (if b91 = true then pr.load 16 true u29.2 t5_1 else some LV.undef).bind fun t89_91 =>
 (pr.guard t85_87 true).bind fun b92 =>
 (if b92 = true then pr.eqS (Sh.bytes 16) false t88_90 t89_91 else some LV.undef).bind fun t90_92 =>
 (pr.pick t85_87 t90_92 (LV.bool false)).bind fun t91_93 =>
 (pr.guard t91_93 true).bind fun b95 =>
 (if b95 = true then pr.fieldAddr 6 36 t9_28.1 else some LV.undef).bind fun t93_95 =>
 (pr.guard t91_93 true).bind fun b96 =>
 (if b96 = true then pr.load 1 false u29.2 t93_95 else some LV.undef).bind fun t94_96 =>
 (pr.guard t91_93 true).bind fun b97 =>
 (if b97 = true then pr.fieldAddr 6 6 t7_15.1 else some LV.undef).bind fun t95_97 =>
 (pr.guard t91_93 true).bind fun b98 =>
 (if b98 = true then pr.load 1 false u29.2 t95_97 else some LV.undef).bind fun t96_98 =>
 (pr.guard t91_93 true).bind fun b99 =>
 (if b99 = true then some t96_98 else some LV.undef).bind fun t97_99 =>
 (pr.guard t97_99 false).bind fun b100 =>
 (if b100 = true then pr.fieldAddr 4 4 t7_15.1 else some LV.undef).bind fun t98_100 =>
 (pr.guard t97_99 false).bind fun b101 =>
 (if b101 = true then pr.load 1 false u29.2 t98_100 else some LV.undef).bind fun t99_101 =>
 (pr.guard t97_99 false).bind fun b102 =>
 (if b102 = true then pr.bin .gtr t99_101 (LV.int .i64 0) else some LV.undef).bind fun t100_102 =>
 (pr.guard t91_93 true).bind fun b103 =>
 (if b103 = true then pr.pick t97_99 (LV.bool true) t100_102 else some LV.undef).bind fun t101_103 =>
 (pr.guard t91_93 true).bind fun b104 =>
 (if b104 = true then pr.eqB false t94_96 t101_103 else some LV.undef).bind fun t102_104 =>
 (pr.pick t91_93 t102_104 (LV.bool false)).bind fun t103_105 =>
 (pr.guard t103_105 true).bind fun b107 =>
 (if b107 = true then pr.fieldAddr 6 36 t9_28.1 else some LV.undef).bind fun t105_107 =>
 (pr.guard t103_105 true).bind fun b108 =>
 (if b108 = true then pr.load 1 false u29.2 t105_107 else some LV.undef).bind fun t106_108 =>
 (pr.guard t103_105 true).bind fun b109 =>
 (if b109 = true then pr.un .not t106_108 else some LV.undef).bind fun t107_109 =>
 (pr.guard t103_105 true).bind fun b110 =>
 (if b110 = true then some t107_109 else some LV.undef).bind fun t108_110 =>
 (pr.guard t108_110 false).bind fun b111 =>
 (if b111 = true then pr.fieldAddr 8 38 t9_28.1 else some LV.undef).bind fun t109_111 =>
 (pr.guard t108_110 false).bind fun b112 =>
 (if b112 = true then pr.load 1 false u29.2 t109_111 else some LV.undef).bind fun t110_112 =>
 (pr.guard t108_110 false).bind fun b113 =>
 (if b113 = true then pr.fieldAddr 4 4 t7_15.1 else some LV.undef).bind fun t111_113 =>
 (pr.guard t108_110 false).bind fun b114 =>
 (if b114 = true then pr.load 1 false u29.2 t111_113 else some LV.undef).bind fun t112_114 =>
 (pr.guard t108_110 false).bind fun b115 =>
 (if b115 = true then pr.bin .eql t110_112 t112_114 else some LV.undef).bind fun t113_115 =>
 (pr.guard t108_110 false).bind fun b116 =>
 (if b116 = true then some t113_115 else some LV.undef).bind fun t114_116 =>
 (pr.guard t114_116 true).bind fun b117 =>
 (if b117 = true then pr.fieldAddr 9 39 t9_28.1 else some LV.undef).bind fun t115_117 =>
 (pr.guard t114_116 true).bind fun b118 =>
 (if b118 = true then pr.load 1 false u29.2 t115_117 else some LV.undef).bind fun t116_118 =>
 (pr.guard t114_116 true).bind fun b119 =>
 (if b119 = true then pr.fieldAddr 6 6 t7_15.1 else some LV.undef).bind fun t117_119 =>
 (pr.guard t114_116 true).bind fun b120 =>
 (if b120 = true then pr.load 1 false u29.2 t117_119 else some LV.undef).bind fun t118_120 =>
 (pr.guard t114_116 true).bind fun b121 =>
 (if b121 = true then pr.eqB false t116_118 t118_120 else some LV.undef).bind fun t119_121 =>
 (pr.guard t108_110 false).bind fun b122 =>
 (if b122 = true then pr.pick t114_116 t119_121 (LV.bool false) else some LV.undef).bind fun t120_122 =>
 (pr.guard t108_110 false).bind fun b123 =>
 (if b123 = true then some t120_122 else some LV.undef).bind fun t121_123 =>
 (pr.guard t121_123 true).bind fun b124 =>
 (if b124 = true then pr.fieldAddr 7 37 t9_28.1 else some LV.undef).bind fun t122_124 =>
 (pr.guard t121_123 true).bind fun b125 =>
 (if b125 = true then pr.load 1 false u29.2 t122_124 else some LV.undef).bind fun t123_125 =>
 (pr.guard t121_123 true).bind fun b126 =>
 (if b126 = true then pr.conv .i64 t123_125 else some LV.undef).bind fun t124_126 =>
 (pr.guard t121_123 true).bind fun b127 =>
 (if b127 = true then pr.fieldAddr 1 1 t7_15.1 else some LV.undef).bind fun t125_127 =>
 (pr.guard t121_123 true).bind fun b128 =>
 (if b128 = true then pr.load 1 false u29.2 t125_127 else some LV.undef).bind fun t126_128 =>
 (pr.guard t121_123 true).bind fun b129 =>
 (if b129 = true then pr.bin .eql t124_126 t126_128 else some LV.undef).bind fun t127_129 =>
 (pr.guard t108_110 false).bind fun b130 =>
 (if b130 = true then pr.pick t121_123 t127_129 (LV.bool false) else some LV.undef).bind fun t128_130 =>
 (pr.guard t103_105 true).bind fun b131 =>
 (if b131 = true then pr.pick t108_110 (LV.bool true) t128_130 else some LV.undef).bind fun t129_131 =>
 (pr.pick t103_105 t129_131 (LV.bool false)).bind fun t130_132 =>
 pr.fin none u29.2 [t130_132]))))
theorem F_interpreterlaw12_Head46Goes_eq (g : Call) (a0 : LV) (a1 : LV) (a2 : LV) : fnEv g c_interpreterlaw12_Head46Goes [a0, a1, a2] none = F_interpreterlaw12_Head46Goes g a0 a1 a2 := by kernel_rfl

/-- interpreter/interpreterlaw13.Head64Goes -/
noncomputable def F_interpreterlaw13_Head64Goes (g : Call) (a0 : LV) (a1 : LV) (a2 : LV) (a3 : LV) : Option (LV × Option LV) :=
 (pr.box a1).bind fun t5_0 =>
 (pr.box a2).bind fun t6_1 =>
 (pr.call g id_interpreterlaw13_awake noSlots []).bind fun t15_3 =>
 (pr.un .not t15_3).bind fun t16_4 =>
 condK t16_4 (
 pr.fin none noSlots [(LV.bool false)]) (
 (pr.len true a0).bind fun t18_7 =>
 (pr.bin .gtr t18_7 (LV.int .i64 70000)).bind fun t19_8 =>
 condK t19_8 (
 pr.fin none noSlots [(LV.bool true)]) (
 (pr.call g id_ip6_Parse noSlots [a0]).bind fun t22_11 =>
 (pr.extract t22_11 0).bind fun t23_13 =>
 (pr.extract t22_11 1).bind fun t24_14 =>
 (pr.alloc (LV.agg [(LV.int .i64 0), (LV.int .i64 0), (LV.int .i64 0), (LV.bytes [0, 0, 0, 0, 0, 0, 0, 0, 0, 0, 0, 0, 0, 0, 0, 0]), (LV.bytes [0, 0, 0, 0, 0, 0, 0, 0, 0, 0, 0, 0, 0, 0, 0, 0]), LV.nils, (LV.bool false), (LV.int .u32 0), (LV.int .i64 0), (LV.bool false), (LV.int .i64 0), (LV.str [])]) 9 noSlots).bind fun t9_15 =>
 (pr.store 42 true t9_15.2 t9_15.1 t23_13).bind fun u16 =>
 (pr.eqNil 1 true t24_14).bind fun t26_19 =>
 condK t26_19 (
 pr.fin none u16.2 [(LV.bool true)]) (
 (pr.load 42 true u16.2 t9_15.1).bind fun t28_21 =>
 (pr.load 4 true u16.2 t5_0).bind fun t29_22 =>
 (pr.load 4 true u16.2 t6_1).bind fun t30_23 =>
 (pr.conv .i64 a3).bind fun t32_25 =>
 (pr.call g id_head64_Head u16.2 [t28_21, t29_22, t30_23, t32_25]).bind fun t33_26 =>
 (pr.extract t33_26 0).bind fun t34_28 =>
 (pr.extract t33_26 1).bind fun t35_29 =>
 (pr.alloc (LV.agg [(LV.int .i64 0), (LV.int .i64 0), (LV.int .i64 0), (LV.int .i64 0), (LV.int .i64 0), (LV.bool false), (LV.bool false), (LV.bytes [0, 0, 0, 0]), (LV.bytes [0, 0, 0, 0]), (LV.str []), (LV.str [])]) 11 u16.2).bind fun t11_30 =>
 (pr.store 17 true t11_30.2 t11_30.1 t34_28).bind fun u31 =>
 (pr.eqNil 1 true t35_29).bind fun t37_34 =>
 condK t37_34 (
 (pr.load 17 true u31.2 t11_30.1).bind fun t38_35 =>
 (pr.parts (LV.agg [(LV.int .i64 0), (LV.int .i64 0), (LV.int .i64 0), (LV.int .i64 0), (LV.int .i64 0), (LV.bool false), (LV.bool false), (LV.bytes [0, 0, 0, 0]), (LV.bytes [0, 0, 0, 0]), (LV.str []), (LV.str [])]) []).bind fun t39_36 =>
 (pr.eqS (Sh.agg [(Sh.int .i64), (Sh.int .i64), (Sh.int .i64), (Sh.int .i64), (Sh.int .i64), Sh.bool, Sh.bool, (Sh.bytes 4), (Sh.bytes 4), Sh.str, Sh.str]) false t38_35 t39_36).bind fun t40_37 =>
 pr.fin none u31.2 [t40_37]) (
 (pr.load 17 true u31.2 t11_30.1).bind fun t42_39 =>
 (pr.call g id_ip4_Bytes u31.2 [t42_39]).bind fun t43_40 =>
 (pr.extract t43_40 0).bind fun t44_42 =>
 (pr.extract t43_40 1).bind fun t45_43 =>
 (pr.eqNil 1 false t45_43).bind fun t47_47 =>
 (pr.guard t47_47 true).bind fun b49 =>
 (if b49 = true then pr.fieldAddr 10 16 t11_30.1 else some LV.undef).bind fun t49_49 =>
 (pr.guard t47_47 true).bind fun b50 =>
 (if b50 = true then pr.load 1 false u31.2 t49_49 else some LV.undef).bind fun t50_50 =>
 (pr.guard t47_47 true).bind fun b51 =>
 (if b51 = true then pr.fieldAddr 11 41 t9_15.1 else some LV.undef).bind fun t51_51 =>
 (pr.guard t47_47 true).bind fun b52 =>
 (if b52 = true then pr.load 1 false u31.2 t51_51 else some LV.undef).bind fun t52_52 =>
 (pr.guard t47_47 true).bind fun b53 =>
 (if b53 = true then pr.bin .eql t50_50 t52_52 else some LV.undef).bind fun t53_53 =>
 (pr.pick t47_47 t53_53 (LV.bool false)).bind fun t54_54 =>
 (pr.guard t54_54 true).bind fun b56 =>
 (if b56 = true then pr.fieldAddr 2 2 t11_30.1 else some LV.undef).bind fun t56_56 =>
 (pr.guard t54_54 true).bind fun b57 =>
 (if b57 = true then pr.load 1 false u31.2 t56_56 else some LV.undef).bind fun t57_57 =>
 (pr.guard t54_54 true).bind fun b58 =>
 (if b58 = true then pr.fieldAddr 2 2 t9_15.1 else some LV.undef).bind fun t58_58 =>
 (pr.guard t54_54 true).bind fun b59 =>
 (if b59 = true then pr.load 1 false u31.2 t58_58 else some LV.undef).bind fun t59_59 =>
 (pr.guard t54_54 true).bind fun b60 =>
 (if b60 = true then pr.bin .sub t59_59 (LV.int .i64 1) else some LV.undef).bind fun t60_60 =>
 (pr.guard t54_54 true).bind fun b61 =>
 (if b61 = true then pr.bin .eql t57_57 t60_60 else some LV.undef).bind fun t61_61 =>
 (pr.pick t54_54 t61_61 (LV.bool false)).bind fun t62_62 =>
 (pr.guard t62_62 true).bind fun b64 =>
 (if b64 = true then pr.fieldAddr 2 2 t11_30.1 else some LV.undef).bind fun t64_64 =>
 (pr.guard t62_62 true).bind fun b65 =>
 (if b65 = true then pr.load 1 false u31.2 t64_64 else some LV.undef).bind fun t65_65 =>
 (pr.guard t62_62 true).bind fun b66 =>
 (if b66 = true then pr.bin .gtr t65_65 (LV.int .i64 0) else some LV.undef).bind fun t66_66 =>
 (pr.pick t62_62 t66_66 (LV.bool false)).bind fun t67_67 =>
 (pr.guard t67_67 true).bind fun b69 =>
 (if b69 = true then pr.fieldAddr 9 15 t11_30.1 else some LV.undef).bind fun t69_69 =>
 (pr.guard t67_67 true).bind fun b70 =>
 (if b70 = true then pr.load 1 false u31.2 t69_69 else some LV.undef).bind fun t70_70 =>
 (pr.guard t67_67 true).bind fun b71 =>
 (if b71 = true then pr.bin .eql t70_70 (LV.str []) else some LV.undef).bind fun t71_71 =>
 (pr.pick t67_67 t71_71 (LV.bool false)).bind fun t72_72 =>
 (pr.guard t72_72 true).bind fun b74 =>
 (if b74 = true then pr.fieldAddr 6 6 t11_30.1 else some LV.undef).bind fun t74_74 =>
 (pr.guard t72_72 true).bind fun b75 =>
 (if b75 = true then pr.load 1 false u31.2 t74_74 else some LV.undef).bind fun t75_75 =>
 (pr.guard t72_72 true).bind fun b76 =>
 (if b76 = true then some t75_75 else some LV.undef).bind fun t76_76 =>
 (pr.guard t76_76 false).bind fun b77 =>
 (if b77 = true then pr.fieldAddr 4 4 t11_30.1 else some LV.undef).bind fun t77_77 =>
 (pr.guard t76_76 false).bind fun b78 =>
 (if b78 = true then pr.load 1 false u31.2 t77_77 else some LV.undef).bind fun t78_78 =>
 (pr.guard t76_76 false).bind fun b79 =>
 (if b79 = true then pr.bin .gtr t78_78 (LV.int .i64 0) else some LV.undef).bind fun t79_79 =>
 (pr.guard t72_72 true).bind fun b80 =>
 (if b80 = true then pr.pick t76_76 (LV.bool true) t79_79 else some LV.undef).bind fun t80_80 =>
 (pr.guard t72_72 true).bind fun b81 =>
 (if b81 = true then pr.fieldAddr 9 39 t9_15.1 else some LV.undef).bind fun t81_81 =>
 (pr.guard t72_72 true).bind fun b82 =>
 (if b82 = true then pr.load 1 false u31.2 t81_81 else some LV.undef).bind fun t82_82 =>
 (pr.guard t72_72 true).bind fun b83 =>
 (if b83 = true then some t82_82 else some LV.undef).bind fun t83_83 =>
 (pr.guard t83_83 false).bind fun b84 =>
 (if b84 = true then pr.fieldAddr 8 38 t9_15.1 else some LV.undef).bind fun t84_84 =>
 (pr.guard t83_83 false).bind fun b85 =>
 (if b85 = true then pr.load 1 false u31.2 t84_84 else some LV.undef).bind fun t85_85 =>
 (pr.guard t83_83 false).bind fun b86 =>
 (if b86 = true then pr.bin .gtr t85_85 (LV.int .i64 0) else some LV.undef).bind fun t86_86 =>
 (pr.guard t72_72 true).bind fun b87 =>
 (if b87 = true then pr.pick t83_83 (LV.bool true) t86_86 else some LV.undef).bind fun t87_87 =>
 (pr.guard t72_72 true).bind fun b88 =>
 (if b88 = true then pr.eqB false t80_80 t87_87 else some LV.undef).bind fun t88_88 =>
 (pr.pick t72_72 t88_88 (LV.bool false)).bind fun t89_89 =>
 (pr.guard t89_89 true).bind fun b91 =>
 (if b91 = true then pr.fieldAddr 5 5 t11_30.1 else some LV.undef).bind fun t91_91 =>
 (pr.guard t89_89 true).bind fun b92 =>
 (if b92 = true then pr.load 1 false u31.2 t91_91 else some LV.undef).bind fun t92_92 =>
 (pr.guard t89_89 true).bind fun b93 =>
 (if b93 = true then pr.fieldAddr 6 36 t9_15.1 else some LV.undef).bind fun t93_93 =>
 (pr.guard t89_89 true).bind fun b94 =>
 (if b94 = true then pr.load 1 false u31.2 t93_93 else some LV.undef).bind fun t94_94 =>
 (pr.guard t89_89 true).bind fun b95 =>
 (if b95 = true then pr.un .not t94_94 else some LV.undef).bind fun t95_95 =>
 (pr.guard t89_89 true).bind fun b96 =>
 (if b96 = true then some t95_95 else some LV.undef).bind fun t96_96 =>
 (pr.guard t96_96 true).bind fun b97 =>
 (if b97 = true then some t44_42 else some LV.undef).bind fun t97_97 =>
 (pr.guard t96_96 true).bind fun b98 =>
 (if b98 = true then pr.len true t97_97 else some LV.undef).bind fun t98_98 =>
 (pr.guard t96_96 true).bind fun b99 =>
 (if b99 = true then pr.bin .gtr t98_98 (LV.int .i64 1260) else some LV.undef).bind fun t99_99 =>
 (pr.guard t89_89 true).bind fun b100 =>
 (if b100 = true then pr.pick t96_96 t99_99 (LV.bool false) else some LV.undef).bind fun t100_100 =>
 (pr.guard t89_89 true).bind fun b101 =>
 (if b101 = true then pr.eqB false t92_92 t100_100 else some LV.undef).bind fun t101_101 =>
 (pr.pick t89_89 t101_101 (LV.bool false)).bind fun t102_102 =>
 (pr.guard t102_102 true).bind fun b104 =>
 (if b104 = true then pr.fieldAddr 5 5 t11_30.1 else some LV.undef).bind fun t104_104 =>
 (pr.guard t102_102 true).bind fun b105 =>
 (if b105 = true then pr.load 1 false u31.2 t104_104 else some LV.undef).bind fun t105_105 =>
 (pr.guard t102_102 true).bind fun b106 =>
 (if b106 = true then some t105_105 else some LV.undef).bind fun t106_106 =>
 (pr.guard t106_106 false).bind fun b107 =>
 (if b107 = true then pr.fieldAddr 6 36 t9_15.1 else some LV.undef).bind fun t107_107 =>
 (pr.guard t106_106 false).bind fun b108 =>
 (if b108 = true then pr.load 1 false u31.2 t107_107 else some LV.undef).bind fun t108_108 =>
 (pr.guard t102_102 true).bind fun b109 =>
 (if b109 = true then pr.pick t106_106 (LV.bool true) t108_108 else some LV.undef).bind fun t109_109 =>
 (pr.guard t102_102 true).bind fun b110 =>
 (if b110 = true then some t109_109 else some LV.undef).bind fun t110_110 =>
 (pr.guard t110_110 false).bind fun b111 =>
 (if b111 = true then pr.fieldAddr 1 1 t11_30.1 else some LV.undef).bind fun t111_111 =>
 (pr.guard t110_110 false).bind fun b112 =>
 (if b112 = true then pr.load 1 false u31.2 t111_111 else some LV.undef).bind fun t112_112 =>
 (pr.guard t110_110 false).bind fun b113 =>
 (if b113 = true then some a3 else some LV.undef).bind fun t113_113 =>
 (pr.guard t110_110 false).bind fun b114 =>
 (if b114 = true then pr.conv .i64 t113_113 else some LV.undef).bind fun t114_114 =>
 (pr.guard t110_110 false).bind fun b115 =>
 (if b115 = true then pr.bin .eql t112_112 t114_114 else some LV.undef).bind fun t115_115 =>
 (pr.guard t102_102 true).bind fun b116 =>
 (if b116 = true then pr.pick t110_110 (LV.bool true) t115_115 else some LV.undef).bind fun t116_116 =>
 (pr.pick t102_102 t116_116 (LV.bool false)).bind fun t117_117 =>
 pr.fin none u31.2 [t117_117]))))
theorem F_interpreterlaw13_Head64Goes_eq (g : Call) (a0 : LV) (a1 : LV) (a2 : LV) (a3 : LV) : fnEv g c_interpreterlaw13_Head64Goes [a0, a1, a2, a3] none = F_interpreterlaw13_Head64Goes g a0 a1 a2 a3 := by kernel_rfl

/-- interpreter/interpreterlaw13.awake -/
noncomputable def F_interpreterlaw13_awake (g : Call) : Option (LV × Option LV) :=
 (pr.parts (LV.agg [(LV.int .i64 0), (LV.int .i64 0), (LV.int .i64 0), (LV.bytes [0, 0, 0, 0, 0, 0, 0, 0, 0, 0, 0, 0, 0, 0, 0, 0]), (LV.bytes [0, 0, 0, 0, 0, 0, 0, 0, 0, 0, 0, 0, 0, 0, 0, 0]), LV.nils, (LV.bool false), (LV.int .u32 0), (LV.int .i64 0), (LV.bool false), (LV.int .i64 0), (LV.str [])]) [(0, (LV.int .i64 5)), (2, (LV.int .i64 9)), (10, (LV.int .i64 58)), (11, (LV.str [104, 105]))]).bind fun t4_1 =>
 (pr.parts (LV.bytes [0, 0, 0, 0]) [(0, (LV.int .u8 1))]).bind fun t5_2 =>
 (pr.parts (LV.bytes [0, 0, 0, 0]) [(0, (LV.int .u8 2))]).bind fun t6_3 =>
 (pr.call g id_head64_Head noSlots [t4_1, t5_2, t6_3, (LV.int .i64 7)]).bind fun t7_4 =>
 (pr.extract t7_4 0).bind fun t8_6 =>
 (pr.extract t7_4 1).bind fun t9_7 =>
 (pr.alloc (LV.agg [(LV.int .i64 0), (LV.int .i64 0), (LV.int .i64 0), (LV.int .i64 0), (LV.int .i64 0), (LV.bool false), (LV.bool false), (LV.bytes [0, 0, 0, 0]), (LV.bytes [0, 0, 0, 0]), (LV.str []), (LV.str [])]) 1 noSlots).bind fun t1_8 =>
 (pr.store 17 true t1_8.2 t1_8.1 t8_6).bind fun u9 =>
 (pr.eqNil 1 false t9_7).bind fun t11_12 =>
 (pr.guard t11_12 true).bind fun b14 =>
 (if b14 = true then pr.load 17 true u9.2 t1_8.1 else some LV.undef).bind fun t13_14 =>
 (pr.guard t11_12 true).bind fun b15 =>
 (if b15 = true then pr.parts (LV.bytes [0, 0, 0, 0]) [(0, (LV.int .u8 1))] else some LV.undef).bind fun t14_15 =>
 (pr.guard t11_12 true).bind fun b16 =>
 (if b16 = true then pr.parts (LV.bytes [0, 0, 0, 0]) [(0, (LV.int .u8 2))] else some LV.undef).bind fun t15_16 =>
 (pr.guard t11_12 true).bind fun b17 =>
 (if b17 = true then pr.parts (LV.agg [(LV.int .i64 0), (LV.int .i64 0), (LV.int .i64 0), (LV.int .i64 0), (LV.int .i64 0), (LV.bool false), (LV.bool false), (LV.bytes [0, 0, 0, 0]), (LV.bytes [0, 0, 0, 0]), (LV.str []), (LV.str [])]) [(0, (LV.int .i64 5)), (2, (LV.int .i64 8)), (3, (LV.int .i64 1)), (1, (LV.int .i64 7)), (7, t14_15), (8, t15_16), (10, (LV.str [104, 105]))] else some LV.undef).bind fun t16_17 =>
 (pr.guard t11_12 true).bind fun b18 =>
 (if b18 = true then pr.eqS (Sh.agg [(Sh.int .i64), (Sh.int .i64), (Sh.int .i64), (Sh.int .i64), (Sh.int .i64), Sh.bool, Sh.bool, (Sh.bytes 4), (Sh.bytes 4), Sh.str, Sh.str]) false t13_14 t16_17 else some LV.undef).bind fun t17_18 =>
 (pr.pick t11_12 t17_18 (LV.bool false)).bind fun t18_19 =>
 pr.fin none u9.2 [t18_19]
theorem F_interpreterlaw13_awake_eq (g : Call) : fnEv g c_interpreterlaw13_awake [] none = F_interpreterlaw13_awake g := by kernel_rfl

/-- interpreter/interpreterlaw13.Great -/
noncomputable def F_interpreterlaw13_Great (g : Call) (a0 : LV) : Option (LV × Option LV) :=
 (pr.box a0).bind fun t1_0 =>
 (pr.fieldAddr 11 41 t1_0).bind fun t5_2 =>
 (pr.load 1 false noSlots t5_2).bind fun t6_3 =>
 (pr.len true t6_3).bind fun t7_4 =>
 (whileW (fun q7 : List LV × Slots =>
 (pr.fieldAddr 5 35 t1_0).bind fun t9_9 =>
 (pr.load 1 false q7.2 t9_9).bind fun t10_10 =>
 (pr.len false t10_10).bind fun t11_11 =>
 (pr.bin .lss (getL q7.1 1) t11_11).bind fun t12_12 =>
 (pr.guard t12_12 true).bind fun b14 =>
 (if b14 = true then some (getL q7.1 1) else some LV.undef).bind fun t14_14 =>
 (pr.guard t12_12 true).bind fun b15 =>
 (if b15 = true then pr.bin .leq t14_14 (LV.int .i64 20) else some LV.undef).bind fun t15_15 =>
 (pr.pick t12_12 t15_15 (LV.bool false)).bind fun t16_16 =>
 condK t16_16 (
 (pr.fieldAddr 5 35 t1_0).bind fun t20_18 =>
 (pr.load 1 false q7.2 t20_18).bind fun t21_19 =>
 (pr.idxAddr none 2 t21_19 (getL q7.1 1)).bind fun t23_21 =>
 (pr.fieldAddr 1 1 t23_21).bind fun t24_22 =>
 (pr.load 1 false q7.2 t24_22).bind fun t25_23 =>
 (pr.len true t25_23).bind fun t26_24 =>
 (pr.minmax false t26_24 [(LV.int .i64 70001)]).bind fun t27_25 =>
 (pr.bin .add (getL q7.1 0) t27_25).bind fun t28_26 =>
 (pr.bin .add (getL q7.1 1) (LV.int .i64 1)).bind fun t18_29 =>
 pr.round noSlots .normal [t28_26, t18_29] q7.2) (
 pr.round noSlots (.exit 0) [(getL q7.1 0), (getL q7.1 1)] q7.2)) ([t7_4, (LV.int .i64 0)], noSlots)).bind fun r7 =>
 exIf r7.1 (.exit 0) (
 (pr.fieldAddr 5 35 t1_0).bind fun t29_31 =>
 (pr.load 1 false r7.2.2 t29_31).bind fun t30_32 =>
 (pr.len false t30_32).bind fun t31_33 =>
 (pr.bin .gtr t31_33 (LV.int .i64 20)).bind fun t32_34 =>
 (pr.guard t32_34 false).bind fun b36 =>
 (if b36 = true then some (getL r7.2.1 0) else some LV.undef).bind fun t34_36 =>
 (pr.guard t32_34 false).bind fun b37 =>
 (if b37 = true then pr.bin .gtr t34_36 (LV.int .i64 70000) else some LV.undef).bind fun t35_37 =>
 (pr.pick t32_34 (LV.bool true) t35_37).bind fun t36_38 =>
 pr.fin none r7.2.2 [t36_38]) (none)
theorem F_interpreterlaw13_Great_eq (g : Call) (a0 : LV) : fnEv g c_interpreterlaw13_Great [a0] none = F_interpreterlaw13_Great g a0 := by kernel_rfl

/-- interpreter/head64.Head -/
noncomputable def F_head64_Head (g : Call) (a0 : LV) (a1 : LV) (a2 : LV) (a3 : LV) : Option (LV × Option LV) :=
 (pr.box a0).bind fun t4_0 =>
 (pr.box a1).bind fun t5_1 =>
 (pr.box a2).bind fun t6_2 =>
 (pr.alloc (LV.agg [(LV.int .i64 0), (LV.int .i64 0), (LV.int .i64 0), (LV.int .i64 0), (LV.int .i64 0), (LV.bool false), (LV.bool false), (LV.bytes [0, 0, 0, 0]), (LV.bytes [0, 0, 0, 0]), (LV.str []), (LV.str [])]) 8 noSlots).bind fun t8_3 =>
 (pr.load 42 true t8_3.2 t4_0).bind fun t14_5 =>
 (pr.call g id_head64_why t8_3.2 [t14_5, a3]).bind fun t16_7 =>
 (pr.bin .neq t16_7 (LV.int .i64 0)).bind fun t18_10 =>
 condK t18_10 (
 (pr.parts (LV.agg [(LV.int .i64 0), (LV.int .i64 0), (LV.int .i64 0), (LV.int .i64 0), (LV.int .i64 0), (LV.bool false), (LV.bool false), (LV.bytes [0, 0, 0, 0]), (LV.bytes [0, 0, 0, 0]), (LV.str []), (LV.str [])]) []).bind fun t19_11 =>
 (pr.call g id_head64_fault t8_3.2 [t16_7]).bind fun t21_13 =>
 (pr.store 17 true t8_3.2 t8_3.1 t19_11).bind fun u14 =>
 (pr.load 17 true u14.2 t8_3.1).bind fun v16 =>
 pr.fin none u14.2 [v16, t21_13]) (
 (pr.fieldAddr 10 40 t4_0).bind fun t23_17 =>
 (pr.load 1 false t8_3.2 t23_17).bind fun t24_18 =>
 (pr.call g id_head64_Proto t8_3.2 [t24_18]).bind fun t25_19 =>
 (pr.extract t25_19 0).bind fun t26_21 =>
 (pr.extract t25_19 1).bind fun t27_22 =>
 (pr.fieldAddr 0 0 t4_0).bind fun t28_25 =>
 (pr.load 1 false t8_3.2 t28_25).bind fun t29_26 =>
 (pr.fieldAddr 2 2 t4_0).bind fun t30_27 =>
 (pr.load 1 false t8_3.2 t30_27).bind fun t31_28 =>
 (pr.bin .sub t31_28 (LV.int .i64 1)).bind fun t32_29 =>
 (pr.load 4 true t8_3.2 t5_1).bind fun t34_31 =>
 (pr.load 4 true t8_3.2 t6_2).bind fun t35_32 =>
 (pr.fieldAddr 11 41 t4_0).bind fun t36_33 =>
 (pr.load 1 false t8_3.2 t36_33).bind fun t37_34 =>
 (pr.parts (LV.agg [(LV.int .i64 0), (LV.int .i64 0), (LV.int .i64 0), (LV.int .i64 0), (LV.int .i64 0), (LV.bool false), (LV.bool false), (LV.bytes [0, 0, 0, 0]), (LV.bytes [0, 0, 0, 0]), (LV.str []), (LV.str [])]) [(0, t29_26), (2, t32_29), (3, t26_21), (7, t34_31), (8, t35_32), (10, t37_34)]).bind fun t38_35 =>
 (pr.alloc (LV.agg [(LV.int .i64 0), (LV.int .i64 0), (LV.int .i64 0), (LV.int .i64 0), (LV.int .i64 0), (LV.bool false), (LV.bool false), (LV.bytes [0, 0, 0, 0]), (LV.bytes [0, 0, 0, 0]), (LV.str []), (LV.str [])]) 13 t8_3.2).bind fun t13_36 =>
 (pr.store 17 true t13_36.2 t13_36.1 t38_35).bind fun u37 =>
 (pr.fieldAddr 6 36 t4_0).bind fun t41_38 =>
 (pr.load 1 false u37.2 t41_38).bind fun t42_39 =>
 condK t42_39 (
 (pr.fieldAddr 7 37 t4_0).bind fun t43_41 =>
 (pr.load 1 false u37.2 t43_41).bind fun t44_42 =>
 (pr.bin .and t44_42 (LV.int .u32 65535)).bind fun t45_43 =>
 (pr.conv .i64 t45_43).bind fun t46_44 =>
 (pr.fieldAddr 8 38 t4_0).bind fun t47_45 =>
 (pr.load 1 false u37.2 t47_45).bind fun t48_46 =>
 (pr.fieldAddr 9 39 t4_0).bind fun t49_47 =>
 (pr.load 1 false u37.2 t49_47).bind fun t50_48 =>
 (pr.fieldAddr 1 1 t13_36.1).bind fun t51_49 =>
 (pr.store 1 false u37.2 t51_49 t46_44).bind fun u50 =>
 (pr.fieldAddr 4 4 t13_36.1).bind fun t52_51 =>
 (pr.store 1 false u50.2 t52_51 t48_46).bind fun u52 =>
 (pr.fieldAddr 6 6 t13_36.1).bind fun t53_53 =>
 (pr.store 1 false u52.2 t53_53 t50_48).bind fun u54 =>
 if noMeet t47_45 t51_49 = true then (if noMeet t49_47 t51_49 = true then (if noMeet t49_47 t52_51 = true then ((pr.load 17 true u54.2 t13_36.1).bind fun t59_55 =>
 (pr.store 17 true u54.2 t8_3.1 t59_55).bind fun u56 =>
 (pr.load 17 true u56.2 t8_3.1).bind fun v58 =>
 pr.fin none u56.2 [v58, LV.nili]) else none) else none) else none) (
 (pr.load 42 true u37.2 t4_0).bind fun t55_59 =>
 (pr.call g id_head64_Wants u37.2 [t55_59]).bind fun t56_60 =>
 condK t56_60 (
 (pr.fieldAddr 1 1 t13_36.1).bind fun t58_63 =>
 (pr.store 1 false u37.2 t58_63 a3).bind fun u64 =>
 (pr.load 17 true u64.2 t13_36.1).bind fun t59_65 =>
 (pr.store 17 true u64.2 t8_3.1 t59_65).bind fun u66 =>
 (pr.load 17 true u66.2 t8_3.1).bind fun v68 =>
 pr.fin none u66.2 [v68, LV.nili]) (
 (pr.fieldAddr 5 5 t13_36.1).bind fun t39_69 =>
 (pr.store 1 false u37.2 t39_69 (LV.bool true)).bind fun u70 =>
 (pr.load 17 true u70.2 t13_36.1).bind fun t59_71 =>
 (pr.store 17 true u70.2 t8_3.1 t59_71).bind fun u72 =>
 (pr.load 17 true u72.2 t8_3.1).bind fun v74 =>
 pr.fin none u72.2 [v74, LV.nili])))
theorem F_head64_Head_eq (g : Call) (a0 : LV) (a1 : LV) (a2 : LV) (a3 : LV) : fnEv g c_head64_Head [a0, a1, a2, a3] none = F_head64_Head g a0 a1 a2 a3 := by kernel_rfl

/-- interpreter/interpreterref13.Head -/
noncomputable def F_interpreterref13_Head (g : Call) (a0 : LV) (a1 : LV) (a2 : LV) (a3 : LV) : Option (LV × Option LV) :=
 (pr.box a0).bind fun t4_0 =>
 (pr.box a1).bind fun t5_1 =>
 (pr.box a2).bind fun t6_2 =>
 (pr.alloc (LV.agg [(LV.int .i64 0), (LV.int .i64 0), (LV.int .i64 0), (LV.int .i64 0), (LV.int .i64 0), (LV.bool false), (LV.bool false), (LV.bytes [0, 0, 0, 0]), (LV.bytes [0, 0, 0, 0]), (LV.str []), (LV.str [])]) 8 noSlots).bind fun t8_3 =>
 (pr.parts (LV.agg [(LV.int .i64 0), (LV.int .i64 0), (LV.int .i64 0), (LV.int .i64 0), (LV.int .i64 0), (LV.bool false), (LV.bool false), (LV.bytes [0, 0, 0, 0]), (LV.bytes [0, 0, 0, 0]), (LV.str []), (LV.str [])]) []).bind fun t14_5 =>
 (pr.alloc (LV.agg [(LV.int .i64 0), (LV.int .i64 0), (LV.int .i64 0), (LV.int .i64 0), (LV.int .i64 0), (LV.bool false), (LV.bool false), (LV.bytes [0, 0, 0, 0]), (LV.bytes [0, 0, 0, 0]), (LV.str []), (LV.str [])]) 10 t8_3.2).bind fun t10_6 =>
 (pr.store 17 true t10_6.2 t10_6.1 t14_5).bind fun u7 =>
 (pr.fieldAddr 2 2 t4_0).bind fun t15_8 =>
 (pr.load 1 false u7.2 t15_8).bind fun t16_9 =>
 (pr.bin .lss t16_9 (LV.int .i64 2)).bind fun t17_10 =>
 (pr.guard t17_10 false).bind fun b12 =>
 (if b12 = true then pr.fieldAddr 2 2 t4_0 else some LV.undef).bind fun t19_12 =>
 (pr.guard t17_10 false).bind fun b13 =>
 (if b13 = true then pr.load 1 false u7.2 t19_12 else some LV.undef).bind fun t20_13 =>
 (pr.guard t17_10 false).bind fun b14 =>
 (if b14 = true then pr.bin .gtr t20_13 (LV.int .i64 255) else some LV.undef).bind fun t21_14 =>
 (pr.pick t17_10 (LV.bool true) t21_14).bind fun t22_15 =>
 (pr.guard t22_15 false).bind fun b17 =>
 (if b17 = true then pr.fieldAddr 0 0 t4_0 else some LV.undef).bind fun t24_17 =>
 (pr.guard t22_15 false).bind fun b18 =>
 (if b18 = true then pr.load 1 false u7.2 t24_17 else some LV.undef).bind fun t25_18 =>
 (pr.guard t22_15 false).bind fun b19 =>
 (if b19 = true then pr.bin .lss t25_18 (LV.int .i64 0) else some LV.undef).bind fun t26_19 =>
 (pr.pick t22_15 (LV.bool true) t26_19).bind fun t27_20 =>
 (pr.guard t27_20 false).bind fun b22 =>
 (if b22 = true then pr.fieldAddr 0 0 t4_0 else some LV.undef).bind fun t29_22 =>
 (pr.guard t27_20 false).bind fun b23 =>
 (if b23 = true then pr.load 1 false u7.2 t29_22 else some LV.undef).bind fun t30_23 =>
 (pr.guard t27_20 false).bind fun b24 =>
 (if b24 = true then pr.bin .gtr t30_23 (LV.int .i64 255) else some LV.undef).bind fun t31_24 =>
 (pr.pick t27_20 (LV.bool true) t31_24).bind fun t32_25 =>
 (pr.guard t32_25 false).bind fun b27 =>
 (if b27 = true then some a3 else some LV.undef).bind fun t34_27 =>
 (pr.guard t32_25 false).bind fun b28 =>
 (if b28 = true then pr.bin .lss t34_27 (LV.int .i64 0) else some LV.undef).bind fun t35_28 =>
 (pr.pick t32_25 (LV.bool true) t35_28).bind fun t36_29 =>
 (pr.guard t36_29 false).bind fun b31 =>
 (if b31 = true then some a3 else some LV.undef).bind fun t38_31 =>
 (pr.guard t36_29 false).bind fun b32 =>
 (if b32 = true then pr.bin .gtr t38_31 (LV.int .i64 65535) else some LV.undef).bind fun t39_32 =>
 (pr.pick t36_29 (LV.bool true) t39_32).bind fun t40_33 =>
 condK t40_33 (
 (pr.load 17 true u7.2 t10_6.1).bind fun t41_34 =>
 (pr.store 17 true u7.2 t8_3.1 t41_34).bind fun u35 =>
 (pr.load 17 true u35.2 t8_3.1).bind fun v37 =>
 pr.fin none u35.2 [v37, (LV.int .i64 13)]) (
 (pr.fieldAddr 10 40 t4_0).bind fun t43_38 =>
 (pr.load 1 false u7.2 t43_38).bind fun t44_39 =>
 (pr.call g id_interpreterref13_Proto u7.2 [t44_39]).bind fun t45_40 =>
 (pr.extract t45_40 0).bind fun t46_42 =>
 (pr.extract t45_40 1).bind fun t47_43 =>
 (pr.un .not t47_43).bind fun t49_47 =>
 (pr.guard t49_47 false).bind fun b49 =>
 (if b49 = true then pr.fieldAddr 5 35 t4_0 else some LV.undef).bind fun t51_49 =>
 (pr.guard t49_47 false).bind fun b50 =>
 (if b50 = true then pr.load 1 false u7.2 t51_49 else some LV.undef).bind fun t52_50 =>
 (pr.guard t49_47 false).bind fun b51 =>
 (if b51 = true then pr.call g id_interpreterref04_Routed u7.2 [t52_50] else some LV.undef).bind fun t53_51 =>
 (pr.pick t49_47 (LV.bool true) t53_51).bind fun t54_52 =>
 condK t54_52 (
 (pr.load 17 true u7.2 t10_6.1).bind fun t55_53 =>
 (pr.store 17 true u7.2 t8_3.1 t55_53).bind fun u54 =>
 (pr.load 17 true u54.2 t8_3.1).bind fun v56 =>
 pr.fin none u54.2 [v56, (LV.int .i64 10)]) (
 (pr.fieldAddr 8 38 t4_0).bind fun t56_57 =>
 (pr.load 1 false u7.2 t56_57).bind fun t57_58 =>
 (pr.bin .gtr t57_58 (LV.int .i64 65535)).bind fun t58_59 =>
 (pr.guard t58_59 false).bind fun b61 =>
 (if b61 = true then pr.fieldAddr 8 38 t4_0 else some LV.undef).bind fun t60_61 =>
 (pr.guard t58_59 false).bind fun b62 =>
 (if b62 = true then pr.load 1 false u7.2 t60_61 else some LV.undef).bind fun t61_62 =>
 (pr.guard t58_59 false).bind fun b63 =>
 (if b63 = true then pr.bin .add t61_62 (LV.int .i64 20) else some LV.undef).bind fun t62_63 =>
 (pr.guard t58_59 false).bind fun b64 =>
 (if b64 = true then pr.fieldAddr 11 41 t4_0 else some LV.undef).bind fun t63_64 =>
 (pr.guard t58_59 false).bind fun b65 =>
 (if b65 = true then pr.load 1 false u7.2 t63_64 else some LV.undef).bind fun t64_65 =>
 (pr.guard t58_59 false).bind fun b66 =>
 (if b66 = true then pr.len true t64_65 else some LV.undef).bind fun t65_66 =>
 (pr.guard t58_59 false).bind fun b67 =>
 (if b67 = true then pr.bin .add t62_63 t65_66 else some LV.undef).bind fun t66_67 =>
 (pr.guard t58_59 false).bind fun b68 =>
 (if b68 = true then pr.bin .gtr t66_67 (LV.int .i64 65535) else some LV.undef).bind fun t67_68 =>
 (pr.pick t58_59 (LV.bool true) t67_68).bind fun t68_69 =>
 condK t68_69 (
 (pr.load 17 true u7.2 t10_6.1).bind fun t69_70 =>
 (pr.store 17 true u7.2 t8_3.1 t69_70).bind fun u71 =>
 (pr.load 17 true u71.2 t8_3.1).bind fun v73 =>
 pr.fin none u71.2 [v73, (LV.int .i64 3)]) (
 (pr.load 17 true u7.2 t10_6.1).bind fun t70_74 =>
 (pr.alloc (LV.agg [(LV.int .i64 0), (LV.int .i64 0), (LV.int .i64 0), (LV.int .i64 0), (LV.int .i64 0), (LV.bool false), (LV.bool false), (LV.bytes [0, 0, 0, 0]), (LV.bytes [0, 0, 0, 0]), (LV.str []), (LV.str [])]) 13 u7.2).bind fun t13_75 =>
 (pr.store 17 true t13_75.2 t13_75.1 t70_74).bind fun u76 =>
 (pr.fieldAddr 0 0 t4_0).bind fun t71_77 =>
 (pr.load 1 false u76.2 t71_77).bind fun t72_78 =>
 (pr.fieldAddr 0 0 t13_75.1).bind fun t73_79 =>
 (pr.store 1 false u76.2 t73_79 t72_78).bind fun u80 =>
 (pr.fieldAddr 2 2 t4_0).bind fun t74_81 =>
 (pr.load 1 false u80.2 t74_81).bind fun t75_82 =>
 (pr.bin .sub t75_82 (LV.int .i64 1)).bind fun t76_83 =>
 (pr.fieldAddr 2 2 t13_75.1).bind fun t77_84 =>
 (pr.store 1 false u80.2 t77_84 t76_83).bind fun u85 =>
 (pr.fieldAddr 3 3 t13_75.1).bind fun t79_87 =>
 (pr.store 1 false u85.2 t79_87 t46_42).bind fun u88 =>
 (pr.load 4 true u88.2 t5_1).bind fun t80_89 =>
 (pr.fieldAddr 7 7 t13_75.1).bind fun t81_90 =>
 (pr.store 4 true u88.2 t81_90 t80_89).bind fun u91 =>
 (pr.load 4 true u91.2 t6_2).bind fun t82_92 =>
 (pr.fieldAddr 8 11 t13_75.1).bind fun t83_93 =>
 (pr.store 4 true u91.2 t83_93 t82_92).bind fun u94 =>
 (pr.fieldAddr 11 41 t4_0).bind fun t84_95 =>
 (pr.load 1 false u94.2 t84_95).bind fun t85_96 =>
 (pr.fieldAddr 10 16 t13_75.1).bind fun t86_97 =>
 (pr.store 1 false u94.2 t86_97 t85_96).bind fun u98 =>
 (pr.fieldAddr 6 36 t4_0).bind fun t87_99 =>
 (pr.load 1 false u98.2 t87_99).bind fun t88_100 =>
 condK t88_100 (
 (pr.fieldAddr 8 38 t4_0).bind fun t89_101 =>
 (pr.load 1 false u98.2 t89_101).bind fun t90_102 =>
 (pr.fieldAddr 4 4 t13_75.1).bind fun t91_103 =>
 (pr.store 1 false u98.2 t91_103 t90_102).bind fun u104 =>
 (pr.fieldAddr 9 39 t4_0).bind fun t92_105 =>
 (pr.load 1 false u104.2 t92_105).bind fun t93_106 =>
 (pr.fieldAddr 6 6 t13_75.1).bind fun t94_107 =>
 (pr.store 1 false u104.2 t94_107 t93_106).bind fun u108 =>
 (pr.fieldAddr 7 37 t4_0).bind fun t95_109 =>
 (pr.load 1 false u108.2 t95_109).bind fun t96_110 =>
 (pr.bin .rem t96_110 (LV.int .u32 65536)).bind fun t97_111 =>
 (pr.conv .i64 t97_111).bind fun t98_112 =>
 (pr.fieldAddr 1 1 t13_75.1).bind fun t99_113 =>
 (pr.store 1 false u108.2 t99_113 t98_112).bind fun u114 =>
 (pr.load 17 true u114.2 t13_75.1).bind fun t100_115 =>
 (pr.store 17 true u114.2 t8_3.1 t100_115).bind fun u116 =>
 (pr.load 17 true u116.2 t8_3.1).bind fun v118 =>
 pr.fin none u116.2 [v118, (LV.int .i64 0)]) (
 (pr.load 42 true u98.2 t4_0).bind fun t101_119 =>
 (pr.call g id_interpreterref13_Wants u98.2 [t101_119]).bind fun t102_120 =>
 condK t102_120 (
 (pr.fieldAddr 1 1 t13_75.1).bind fun t104_122 =>
 (pr.store 1 false u98.2 t104_122 a3).bind fun u123 =>
 (pr.load 17 true u123.2 t13_75.1).bind fun t106_124 =>
 (pr.store 17 true u123.2 t8_3.1 t106_124).bind fun u125 =>
 (pr.load 17 true u125.2 t8_3.1).bind fun v127 =>
 pr.fin none u125.2 [v127, (LV.int .i64 0)]) (
 (pr.fieldAddr 5 5 t13_75.1).bind fun t105_128 =>
 (pr.store 1 false u98.2 t105_128 (LV.bool true)).bind fun u129 =>
 (pr.load 17 true u129.2 t13_75.1).bind fun t106_130 =>
 (pr.store 17 true u129.2 t8_3.1 t106_130).bind fun u131 =>
 (pr.load 17 true u131.2 t8_3.1).bind fun v133 =>
 pr.fin none u131.2 [v133, (LV.int .i64 0)])))))
theorem F_interpreterref13_Head_eq (g : Call) (a0 : LV) (a1 : LV) (a2 : LV) (a3 : LV) : fnEv g c_interpreterref13_Head [a0, a1, a2, a3] none = F_interpreterref13_Head g a0 a1 a2 a3 := by kernel_rfl

/-- interpreter/head64.Proto -/
noncomputable def F_head64_Proto (g : Call) (a0 : LV) : Option (LV × Option LV) :=
 (pr.bin .eql a0 (LV.int .i64 58)).bind fun t6_3 =>
 condK t6_3 (
 pr.fin none noSlots [(LV.int .i64 1), (LV.bool true)]) (
 (pr.bin .eql a0 (LV.int .i64 0)).bind fun t8_7 =>
 condK t8_7 (
 condK t8_7 (
 pr.fin none noSlots [(LV.int .i64 0), (LV.bool false)]) (
 (pr.bin .lss a0 (LV.int .i64 0)).bind fun t15_12 =>
 (pr.guard t15_12 false).bind fun b14 =>
 (if b14 = true then some a0 else some LV.undef).bind fun t17_14 =>
 (pr.guard t15_12 false).bind fun b15 =>
 (if b15 = true then pr.bin .gtr t17_14 (LV.int .i64 255) else some LV.undef).bind fun t18_15 =>
 (pr.pick t15_12 (LV.bool true) t18_15).bind fun t19_16 =>
 condK t19_16 (
 pr.fin none noSlots [(LV.int .i64 0), (LV.bool false)]) (
 pr.fin none noSlots [a0, (LV.bool true)]))) (
 (pr.bin .eql a0 (LV.int .i64 1)).bind fun t9_22 =>
 condK t9_22 (
 condK t9_22 (
 pr.fin none noSlots [(LV.int .i64 0), (LV.bool false)]) (
 (pr.bin .lss a0 (LV.int .i64 0)).bind fun t15_27 =>
 (pr.guard t15_27 false).bind fun b29 =>
 (if b29 = true then some a0 else some LV.undef).bind fun t17_29 =>
 (pr.guard t15_27 false).bind fun b30 =>
 (if b30 = true then pr.bin .gtr t17_29 (LV.int .i64 255) else some LV.undef).bind fun t18_30 =>
 (pr.pick t15_27 (LV.bool true) t18_30).bind fun t19_31 =>
 condK t19_31 (
 pr.fin none noSlots [(LV.int .i64 0), (LV.bool false)]) (
 pr.fin none noSlots [a0, (LV.bool true)]))) (
 (pr.bin .eql a0 (LV.int .i64 2)).bind fun t10_37 =>
 condK t10_37 (
 condK t10_37 (
 pr.fin none noSlots [(LV.int .i64 0), (LV.bool false)]) (
 (pr.bin .lss a0 (LV.int .i64 0)).bind fun t15_42 =>
 (pr.guard t15_42 false).bind fun b44 =>
 (if b44 = true then some a0 else some LV.undef).bind fun t17_44 =>
 (pr.guard t15_42 false).bind fun b45 =>
 (if b45 = true then pr.bin .gtr t17_44 (LV.int .i64 255) else some LV.undef).bind fun t18_45 =>
 (pr.pick t15_42 (LV.bool true) t18_45).bind fun t19_46 =>
 condK t19_46 (
 pr.fin none noSlots [(LV.int .i64 0), (LV.bool false)]) (
 pr.fin none noSlots [a0, (LV.bool true)]))) (
 (pr.bin .eql a0 (LV.int .i64 43)).bind fun t11_52 =>
 condK t11_52 (
 condK t11_52 (
 pr.fin none noSlots [(LV.int .i64 0), (LV.bool false)]) (
 (pr.bin .lss a0 (LV.int .i64 0)).bind fun t15_57 =>
 (pr.guard t15_57 false).bind fun b59 =>
 (if b59 = true then some a0 else some LV.undef).bind fun t17_59 =>
 (pr.guard t15_57 false).bind fun b60 =>
 (if b60 = true then pr.bin .gtr t17_59 (LV.int .i64 255) else some LV.undef).bind fun t18_60 =>
 (pr.pick t15_57 (LV.bool true) t18_60).bind fun t19_61 =>
 condK t19_61 (
 pr.fin none noSlots [(LV.int .i64 0), (LV.bool false)]) (
 pr.fin none noSlots [a0, (LV.bool true)]))) (
 (pr.bin .eql a0 (LV.int .i64 44)).bind fun t12_67 =>
 condK t12_67 (
 condK t12_67 (
 pr.fin none noSlots [(LV.int .i64 0), (LV.bool false)]) (
 (pr.bin .lss a0 (LV.int .i64 0)).bind fun t15_72 =>
 (pr.guard t15_72 false).bind fun b74 =>
 (if b74 = true then some a0 else some LV.undef).bind fun t17_74 =>
 (pr.guard t15_72 false).bind fun b75 =>
 (if b75 = true then pr.bin .gtr t17_74 (LV.int .i64 255) else some LV.undef).bind fun t18_75 =>
 (pr.pick t15_72 (LV.bool true) t18_75).bind fun t19_76 =>
 condK t19_76 (
 pr.fin none noSlots [(LV.int .i64 0), (LV.bool false)]) (
 pr.fin none noSlots [a0, (LV.bool true)]))) (
 (pr.bin .eql a0 (LV.int .i64 60)).bind fun t13_82 =>
 condK t13_82 (
 pr.fin none noSlots [(LV.int .i64 0), (LV.bool false)]) (
 (pr.bin .lss a0 (LV.int .i64 0)).bind fun t15_87 =>
 (pr.guard t15_87 false).bind fun b89 =>
 (if b89 = true then some a0 else some LV.undef).bind fun t17_89 =>
 (pr.guard t15_87 false).bind fun b90 =>
 (if b90 = true then pr.bin .gtr t17_89 (LV.int .i64 255) else some LV.undef).bind fun t18_90 =>
 (pr.pick t15_87 (LV.bool true) t18_90).bind fun t19_91 =>
 condK t19_91 (
 pr.fin none noSlots [(LV.int .i64 0), (LV.bool false)]) (
 pr.fin none noSlots [a0, (LV.bool true)]))))))))
theorem F_head64_Proto_eq (g : Call) (a0 : LV) : fnEv g c_head64_Proto [a0] none = F_head64_Proto g a0 := by kernel_rfl

/-- interpreter/interpreterref13.Proto -/
noncomputable def F_interpreterref13_Proto (g : Call) (a0 : LV) : Option (LV × Option LV) :=
 (pr.bin .eql a0 (LV.int .i64 58)).bind fun t5_3 =>
 condK t5_3 (
 pr.fin none noSlots [(LV.int .i64 1), (LV.bool true)]) (
 (pr.bin .leq a0 (LV.int .i64 2)).bind fun t7_7 =>
 (pr.guard t7_7 false).bind fun b9 =>
 (if b9 = true then some a0 else some LV.undef).bind fun t9_9 =>
 (pr.guard t7_7 false).bind fun b10 =>
 (if b10 = true then pr.bin .eql t9_9 (LV.int .i64 43) else some LV.undef).bind fun t10_10 =>
 (pr.pick t7_7 (LV.bool true) t10_10).bind fun t11_11 =>
 (pr.guard t11_11 false).bind fun b13 =>
 (if b13 = true then some a0 else some LV.undef).bind fun t13_13 =>
 (pr.guard t11_11 false).bind fun b14 =>
 (if b14 = true then pr.bin .eql t13_13 (LV.int .i64 44) else some LV.undef).bind fun t14_14 =>
 (pr.pick t11_11 (LV.bool true) t14_14).bind fun t15_15 =>
 (pr.guard t15_15 false).bind fun b17 =>
 (if b17 = true then some a0 else some LV.undef).bind fun t17_17 =>
 (pr.guard t15_15 false).bind fun b18 =>
 (if b18 = true then pr.bin .eql t17_17 (LV.int .i64 60) else some LV.undef).bind fun t18_18 =>
 (pr.pick t15_15 (LV.bool true) t18_18).bind fun t19_19 =>
 (pr.guard t19_19 false).bind fun b21 =>
 (if b21 = true then some a0 else some LV.undef).bind fun t21_21 =>
 (pr.guard t19_19 false).bind fun b22 =>
 (if b22 = true then pr.bin .gtr t21_21 (LV.int .i64 255) else some LV.undef).bind fun t22_22 =>
 (pr.pick t19_19 (LV.bool true) t22_22).bind fun t23_23 =>
 condK t23_23 (
 pr.fin none noSlots [(LV.int .i64 0), (LV.bool false)]) (
 pr.fin none noSlots [a0, (LV.bool true)]))
theorem F_interpreterref13_Proto_eq (g : Call) (a0 : LV) : fnEv g c_interpreterref13_Proto [a0] none = F_interpreterref13_Proto g a0 := by kernel_rfl

/-- interpreter/interpreterlaw13.same -/
noncomputable def F_interpreterlaw13_same (g : Call) (a0 : LV) (a1 : LV) : Option (LV × Option LV) :=
 (pr.bin .eql a1 (LV.int .i64 0)).bind fun t8_2 =>
 condK t8_2 (
 (pr.eqNil 1 false a0).bind fun t10_4 =>
 pr.fin none noSlots [t10_4]) (
 (pr.assert ty_ptr_num_Fault true LV.nilp a0).bind fun t13_7 =>
 (pr.extract t13_7 0).bind fun t14_9 =>
 (pr.extract t13_7 1).bind fun t15_10 =>
 (pr.guard t15_10 true).bind fun b15 =>
 (if b15 = true then some t14_9 else some LV.undef).bind fun t18_15 =>
 (pr.guard t15_10 true).bind fun b16 =>
 (if b16 = true then pr.eqNil 0 true t18_15 else some LV.undef).bind fun t19_16 =>
 (pr.pick t15_10 t19_16 (LV.bool false)).bind fun t20_17 =>
 (pr.guard t20_17 true).bind fun b19 =>
 (if b19 = true then some t14_9 else some LV.undef).bind fun t22_19 =>
 (pr.guard t20_17 true).bind fun b20 =>
 (if b20 = true then pr.nilCheck t22_19 else some LV.undef).bind fun t23_20 =>
 (pr.guard t20_17 true).bind fun b21 =>
 (if b21 = true then pr.fieldAddr 0 0 t23_20 else some LV.undef).bind fun t24_21 =>
 (pr.guard t20_17 true).bind fun b22 =>
 (if b22 = true then pr.load 1 false noSlots t24_21 else some LV.undef).bind fun t25_22 =>
 (pr.guard t20_17 true).bind fun b23 =>
 (if b23 = true then some a1 else some LV.undef).bind fun t26_23 =>
 (pr.guard t20_17 true).bind fun b24 =>
 (if b24 = true then pr.bin .eql t25_22 t26_23 else some LV.undef).bind fun t27_24 =>
 (pr.pick t20_17 t27_24 (LV.bool false)).bind fun t28_25 =>
 (pr.guard t28_25 true).bind fun b27 =>
 (if b27 = true then some t14_9 else some LV.undef).bind fun t30_27 =>
 (pr.guard t28_25 true).bind fun b28 =>
 (if b28 = true then pr.nilCheck t30_27 else some LV.undef).bind fun t31_28 =>
 (pr.guard t28_25 true).bind fun b29 =>
 (if b29 = true then pr.fieldAddr 1 1 t31_28 else some LV.undef).bind fun t32_29 =>
 (pr.guard t28_25 true).bind fun b30 =>
 (if b30 = true then pr.load 1 false noSlots t32_29 else some LV.undef).bind fun t33_30 =>
 (pr.guard t28_25 true).bind fun b31 =>
 (if b31 = true then pr.bin .eql t33_30 (LV.int .i64 0) else some LV.undef).bind fun t34_31 =>
 (pr.pick t28_25 t34_31 (LV.bool false)).bind fun t35_32 =>
 pr.fin none noSlots [t35_32])
theorem F_interpreterlaw13_same_eq (g : Call) (a0 : LV) (a1 : LV) : fnEv g c_interpreterlaw13_same [a0, a1] none = F_interpreterlaw13_same g a0 a1 := by kernel_rfl

/-- interpreter/head64.Wants -/
noncomputable def F_head64_Wants (g : Call) (a0 : LV) : Option (LV × Option LV) :=
 (pr.box a0).bind fun t1_0 =>
 (pr.fieldAddr 6 36 t1_0).bind fun t3_2 =>
 (pr.load 1 false noSlots t3_2).bind fun t4_3 =>
 (pr.un .not t4_3).bind fun t5_4 =>
 (pr.guard t5_4 true).bind fun b6 =>
 (if b6 = true then pr.fieldAddr 11 41 t1_0 else some LV.undef).bind fun t7_6 =>
 (pr.guard t5_4 true).bind fun b7 =>
 (if b7 = true then pr.load 1 false noSlots t7_6 else some LV.undef).bind fun t8_7 =>
 (pr.guard t5_4 true).bind fun b8 =>
 (if b8 = true then pr.len true t8_7 else some LV.undef).bind fun t9_8 =>
 (pr.guard t5_4 true).bind fun b9 =>
 (if b9 = true then pr.bin .leq t9_8 (LV.int .i64 1240) else some LV.undef).bind fun t10_9 =>
 (pr.pick t5_4 t10_9 (LV.bool false)).bind fun t11_10 =>
 pr.fin none noSlots [t11_10]
theorem F_head64_Wants_eq (g : Call) (a0 : LV) : fnEv g c_head64_Wants [a0] none = F_head64_Wants g a0 := by kernel_rfl

/-- interpreter/interpreterref13.Wants -/
noncomputable def F_interpreterref13_Wants (g : Call) (a0 : LV) : Option (LV × Option LV) :=
 (pr.box a0).bind fun t1_0 =>
 (pr.fieldAddr 6 36 t1_0).bind fun t3_2 =>
 (pr.load 1 false noSlots t3_2).bind fun t4_3 =>
 (pr.un .not t4_3).bind fun t5_4 =>
 (pr.guard t5_4 true).bind fun b6 =>
 (if b6 = true then pr.fieldAddr 11 41 t1_0 else some LV.undef).bind fun t7_6 =>
 (pr.guard t5_4 true).bind fun b7 =>
 (if b7 = true then pr.load 1 false noSlots t7_6 else some LV.undef).bind fun t8_7 =>
 (pr.guard t5_4 true).bind fun b8 =>
 (if b8 = true then pr.len true t8_7 else some LV.undef).bind fun t9_8 =>
 (pr.guard t5_4 true).bind fun b9 =>
 (if b9 = true then pr.bin .leq t9_8 (LV.int .i64 1240) else some LV.undef).bind fun t10_9 =>
 (pr.pick t5_4 t10_9 (LV.bool false)).bind fun t11_10 =>
 pr.fin none noSlots [t11_10]
theorem F_interpreterref13_Wants_eq (g : Call) (a0 : LV) : fnEv g c_interpreterref13_Wants [a0] none = F_interpreterref13_Wants g a0 := by kernel_rfl

/-- interpreter/head46.Head -/
noncomputable def F_head46_Head (g : Call) (a0 : LV) (a1 : LV) (a2 : LV) : Option (LV × Option LV) :=
 (pr.box a0).bind fun t3_0 =>
 (pr.box a1).bind fun t4_1 =>
 (pr.box a2).bind fun t5_2 =>
 (pr.alloc (LV.agg [(LV.int .i64 0), (LV.int .i64 0), (LV.int .i64 0), (LV.bytes [0, 0, 0, 0, 0, 0, 0, 0, 0, 0, 0, 0, 0, 0, 0, 0]), (LV.bytes [0, 0, 0, 0, 0, 0, 0, 0, 0, 0, 0, 0, 0, 0, 0, 0]), LV.nils, (LV.bool false), (LV.int .u32 0), (LV.int .i64 0), (LV.bool false), (LV.int .i64 0), (LV.str [])]) 6 noSlots).bind fun t6_3 =>
 (pr.fieldAddr 2 2 t3_0).bind fun t13_5 =>
 (pr.load 1 false t6_3.2 t13_5).bind fun t14_6 =>
 (pr.bin .lss t14_6 (LV.int .i64 2)).bind fun t15_7 =>
 (pr.guard t15_7 false).bind fun b9 =>
 (if b9 = true then pr.fieldAddr 2 2 t3_0 else some LV.undef).bind fun t17_9 =>
 (pr.guard t15_7 false).bind fun b10 =>
 (if b10 = true then pr.load 1 false t6_3.2 t17_9 else some LV.undef).bind fun t18_10 =>
 (pr.guard t15_7 false).bind fun b11 =>
 (if b11 = true then pr.bin .gtr t18_10 (LV.int .i64 255) else some LV.undef).bind fun t19_11 =>
 (pr.pick t15_7 (LV.bool true) t19_11).bind fun t20_12 =>
 (pr.guard t20_12 false).bind fun b14 =>
 (if b14 = true then pr.fieldAddr 0 0 t3_0 else some LV.undef).bind fun t22_14 =>
 (pr.guard t20_12 false).bind fun b15 =>
 (if b15 = true then pr.load 1 false t6_3.2 t22_14 else some LV.undef).bind fun t23_15 =>
 (pr.guard t20_12 false).bind fun b16 =>
 (if b16 = true then pr.bin .lss t23_15 (LV.int .i64 0) else some LV.undef).bind fun t24_16 =>
 (pr.pick t20_12 (LV.bool true) t24_16).bind fun t25_17 =>
 (pr.guard t25_17 false).bind fun b19 =>
 (if b19 = true then pr.fieldAddr 0 0 t3_0 else some LV.undef).bind fun t27_19 =>
 (pr.guard t25_17 false).bind fun b20 =>
 (if b20 = true then pr.load 1 false t6_3.2 t27_19 else some LV.undef).bind fun t28_20 =>
 (pr.guard t25_17 false).bind fun b21 =>
 (if b21 = true then pr.bin .gtr t28_20 (LV.int .i64 255) else some LV.undef).bind fun t29_21 =>
 (pr.pick t25_17 (LV.bool true) t29_21).bind fun t30_22 =>
 condK t30_22 (
 (pr.parts (LV.agg [(LV.int .i64 0), (LV.int .i64 0), (LV.int .i64 0), (LV.bytes [0, 0, 0, 0, 0, 0, 0, 0, 0, 0, 0, 0, 0, 0, 0, 0]), (LV.bytes [0, 0, 0, 0, 0, 0, 0, 0, 0, 0, 0, 0, 0, 0, 0, 0]), LV.nils, (LV.bool false), (LV.int .u32 0), (LV.int .i64 0), (LV.bool false), (LV.int .i64 0), (LV.str [])]) []).bind fun t31_23 =>
 (pr.call g id_head46_fault t6_3.2 [(LV.int .i64 13)]).bind fun t32_24 =>
 (pr.store 42 true t6_3.2 t6_3.1 t31_23).bind fun u25 =>
 (pr.load 42 true u25.2 t6_3.1).bind fun v27 =>
 pr.fin none u25.2 [v27, t32_24]) (
 (pr.fieldAddr 9 15 t3_0).bind fun t34_28 =>
 (pr.load 1 false t6_3.2 t34_28).bind fun t35_29 =>
 (pr.call g id_ip4_Routed t6_3.2 [t35_29]).bind fun t36_30 =>
 (pr.extract t36_30 0).bind fun t37_32 =>
 (pr.extract t36_30 1).bind fun t38_33 =>
 (pr.eqNil 1 true t38_33).bind fun t40_37 =>
 condK t40_37 (
 (pr.parts (LV.agg [(LV.int .i64 0), (LV.int .i64 0), (LV.int .i64 0), (LV.bytes [0, 0, 0, 0, 0, 0, 0, 0, 0, 0, 0, 0, 0, 0, 0, 0]), (LV.bytes [0, 0, 0, 0, 0, 0, 0, 0, 0, 0, 0, 0, 0, 0, 0, 0]), LV.nils, (LV.bool false), (LV.int .u32 0), (LV.int .i64 0), (LV.bool false), (LV.int .i64 0), (LV.str [])]) []).bind fun t41_38 =>
 (pr.store 42 true t6_3.2 t6_3.1 t41_38).bind fun u40 =>
 (pr.load 42 true u40.2 t6_3.1).bind fun v42 =>
 pr.fin none u40.2 [v42, t38_33]) (
 (pr.fieldAddr 3 3 t3_0).bind fun t44_43 =>
 (pr.load 1 false t6_3.2 t44_43).bind fun t45_44 =>
 (pr.call g id_head46_Proto t6_3.2 [t45_44]).bind fun t46_45 =>
 (pr.extract t46_45 0).bind fun t47_47 =>
 (pr.extract t46_45 1).bind fun t48_48 =>
 (pr.guard t37_32 false).bind fun b53 =>
 (if b53 = true then some t48_48 else some LV.undef).bind fun t51_53 =>
 (pr.guard t37_32 false).bind fun b54 =>
 (if b54 = true then pr.un .not t51_53 else some LV.undef).bind fun t52_54 =>
 (pr.pick t37_32 (LV.bool true) t52_54).bind fun t53_55 =>
 condK t53_55 (
 (pr.parts (LV.agg [(LV.int .i64 0), (LV.int .i64 0), (LV.int .i64 0), (LV.bytes [0, 0, 0, 0, 0, 0, 0, 0, 0, 0, 0, 0, 0, 0, 0, 0]), (LV.bytes [0, 0, 0, 0, 0, 0, 0, 0, 0, 0, 0, 0, 0, 0, 0, 0]), LV.nils, (LV.bool false), (LV.int .u32 0), (LV.int .i64 0), (LV.bool false), (LV.int .i64 0), (LV.str [])]) []).bind fun t54_56 =>
 (pr.call g id_head46_fault t6_3.2 [(LV.int .i64 10)]).bind fun t55_57 =>
 (pr.store 42 true t6_3.2 t6_3.1 t54_56).bind fun u58 =>
 (pr.load 42 true u58.2 t6_3.1).bind fun v60 =>
 pr.fin none u58.2 [v60, t55_57]) (
 (pr.fieldAddr 0 0 t3_0).bind fun t56_61 =>
 (pr.load 1 false t6_3.2 t56_61).bind fun t57_62 =>
 (pr.fieldAddr 2 2 t3_0).bind fun t58_63 =>
 (pr.load 1 false t6_3.2 t58_63).bind fun t59_64 =>
 (pr.bin .sub t59_64 (LV.int .i64 1)).bind fun t60_65 =>
 (pr.load 16 true t6_3.2 t4_1).bind fun t61_66 =>
 (pr.load 16 true t6_3.2 t5_2).bind fun t62_67 =>
 (pr.fieldAddr 10 16 t3_0).bind fun t64_69 =>
 (pr.load 1 false t6_3.2 t64_69).bind fun t65_70 =>
 (pr.parts (LV.agg [(LV.int .i64 0), (LV.int .i64 0), (LV.int .i64 0), (LV.bytes [0, 0, 0, 0, 0, 0, 0, 0, 0, 0, 0, 0, 0, 0, 0, 0]), (LV.bytes [0, 0, 0, 0, 0, 0, 0, 0, 0, 0, 0, 0, 0, 0, 0, 0]), LV.nils, (LV.bool false), (LV.int .u32 0), (LV.int .i64 0), (LV.bool false), (LV.int .i64 0), (LV.str [])]) [(0, t57_62), (2, t60_65), (3, t61_66), (4, t62_67), (10, t47_47), (11, t65_70)]).bind fun t66_71 =>
 (pr.alloc (LV.agg [(LV.int .i64 0), (LV.int .i64 0), (LV.int .i64 0), (LV.bytes [0, 0, 0, 0, 0, 0, 0, 0, 0, 0, 0, 0, 0, 0, 0, 0]), (LV.bytes [0, 0, 0, 0, 0, 0, 0, 0, 0, 0, 0, 0, 0, 0, 0, 0]), LV.nils, (LV.bool false), (LV.int .u32 0), (LV.int .i64 0), (LV.bool false), (LV.int .i64 0), (LV.str [])]) 12 t6_3.2).bind fun t12_72 =>
 (pr.store 42 true t12_72.2 t12_72.1 t66_71).bind fun u73 =>
 (pr.fieldAddr 6 6 t3_0).bind fun t67_74 =>
 (pr.load 1 false u73.2 t67_74).bind fun t68_75 =>
 (pr.guard t68_75 false).bind fun b77 =>
 (if b77 = true then pr.fieldAddr 4 4 t3_0 else some LV.undef).bind fun t70_77 =>
 (pr.guard t68_75 false).bind fun b78 =>
 (if b78 = true then pr.load 1 false u73.2 t70_77 else some LV.undef).bind fun t71_78 =>
 (pr.guard t68_75 false).bind fun b79 =>
 (if b79 = true then pr.bin .neq t71_78 (LV.int .i64 0) else some LV.undef).bind fun t72_79 =>
 (pr.pick t68_75 (LV.bool true) t72_79).bind fun t73_80 =>
 condK t73_80 (
 (pr.fieldAddr 1 1 t3_0).bind fun t74_81 =>
 (pr.load 1 false u73.2 t74_81).bind fun t75_82 =>
 (pr.conv .u32 t75_82).bind fun t76_83 =>
 (pr.fieldAddr 4 4 t3_0).bind fun t77_84 =>
 (pr.load 1 false u73.2 t77_84).bind fun t78_85 =>
 (pr.fieldAddr 6 6 t3_0).bind fun t79_86 =>
 (pr.load 1 false u73.2 t79_86).bind fun t80_87 =>
 (pr.fieldAddr 6 36 t12_72.1).bind fun t81_88 =>
 (pr.store 1 false u73.2 t81_88 (LV.bool true)).bind fun u89 =>
 (pr.fieldAddr 7 37 t12_72.1).bind fun t82_90 =>
 (pr.store 1 false u89.2 t82_90 t76_83).bind fun u91 =>
 (pr.fieldAddr 8 38 t12_72.1).bind fun t83_92 =>
 (pr.store 1 false u91.2 t83_92 t78_85).bind fun u93 =>
 (pr.fieldAddr 9 39 t12_72.1).bind fun t84_94 =>
 (pr.store 1 false u93.2 t84_94 t80_87).bind fun u95 =>
 if noMeet t74_81 t81_88 = true then (if noMeet t77_84 t81_88 = true then (if noMeet t79_86 t81_88 = true then (if noMeet t77_84 t82_90 = true then (if noMeet t79_86 t82_90 = true then (if noMeet t79_86 t83_92 = true then ((pr.load 42 true u95.2 t12_72.1).bind fun t85_96 =>
 (pr.store 42 true u95.2 t6_3.1 t85_96).bind fun u97 =>
 (pr.load 42 true u97.2 t6_3.1).bind fun v99 =>
 pr.fin none u97.2 [v99, LV.nili]) else none) else none) else none) else none) else none) else none) (
 (pr.load 42 true u73.2 t12_72.1).bind fun t85_100 =>
 (pr.store 42 true u73.2 t6_3.1 t85_100).bind fun u101 =>
 (pr.load 42 true u101.2 t6_3.1).bind fun v103 =>
 pr.fin none u101.2 [v103, LV.nili]))))
theorem F_head46_Head_eq (g : Call) (a0 : LV) (a1 : LV) (a2 : LV) : fnEv g c_head46_Head [a0, a1, a2] none = F_head46_Head g a0 a1 a2 := by kernel_rfl

/-- interpreter/interpreterlaw12.awake -/
noncomputable def F_interpreterlaw12_awake (g : Call) : Option (LV × Option LV) :=
 (pr.parts (LV.agg [(LV.int .i64 0), (LV.int .i64 0), (LV.int .i64 0), (LV.int .i64 0), (LV.int .i64 0), (LV.bool false), (LV.bool false), (LV.bytes [0, 0, 0, 0]), (LV.bytes [0, 0, 0, 0]), (LV.str []), (LV.str [])]) [(0, (LV.int .i64 5)), (2, (LV.int .i64 9)), (3, (LV.int .i64 1)), (5, (LV.bool true)), (10, (LV.str [104, 105]))]).bind fun t4_1 =>
 (pr.parts (LV.bytes [0, 0, 0, 0, 0, 0, 0, 0, 0, 0, 0, 0, 0, 0, 0, 0]) [(0, (LV.int .u8 1))]).bind fun t5_2 =>
 (pr.parts (LV.bytes [0, 0, 0, 0, 0, 0, 0, 0, 0, 0, 0, 0, 0, 0, 0, 0]) [(0, (LV.int .u8 2))]).bind fun t6_3 =>
 (pr.call g id_head46_Head noSlots [t4_1, t5_2, t6_3]).bind fun t7_4 =>
 (pr.extract t7_4 0).bind fun t8_6 =>
 (pr.extract t7_4 1).bind fun t9_7 =>
 (pr.alloc (LV.agg [(LV.int .i64 0), (LV.int .i64 0), (LV.int .i64 0), (LV.bytes [0, 0, 0, 0, 0, 0, 0, 0, 0, 0, 0, 0, 0, 0, 0, 0]), (LV.bytes [0, 0, 0, 0, 0, 0, 0, 0, 0, 0, 0, 0, 0, 0, 0, 0]), LV.nils, (LV.bool false), (LV.int .u32 0), (LV.int .i64 0), (LV.bool false), (LV.int .i64 0), (LV.str [])]) 1 noSlots).bind fun t1_8 =>
 (pr.store 42 true t1_8.2 t1_8.1 t8_6).bind fun u9 =>
 (pr.eqNil 1 false t9_7).bind fun t11_12 =>
 (pr.guard t11_12 true).bind fun b14 =>
 (if b14 = true then pr.load 42 true u9.2 t1_8.1 else some LV.undef).bind fun t13_14 =>
 (pr.guard t11_12 true).bind fun b15 =>
 (if b15 = true then pr.parts (LV.bytes [0, 0, 0, 0, 0, 0, 0, 0, 0, 0, 0, 0, 0, 0, 0, 0]) [(0, (LV.int .u8 1))] else some LV.undef).bind fun t14_15 =>
 (pr.guard t11_12 true).bind fun b16 =>
 (if b16 = true then pr.parts (LV.bytes [0, 0, 0, 0, 0, 0, 0, 0, 0, 0, 0, 0, 0, 0, 0, 0]) [(0, (LV.int .u8 2))] else some LV.undef).bind fun t15_16 =>
 (pr.guard t11_12 true).bind fun b17 =>
 (if b17 = true then pr.parts (LV.agg [(LV.int .i64 0), (LV.int .i64 0), (LV.int .i64 0), (LV.bytes [0, 0, 0, 0, 0, 0, 0, 0, 0, 0, 0, 0, 0, 0, 0, 0]), (LV.bytes [0, 0, 0, 0, 0, 0, 0, 0, 0, 0, 0, 0, 0, 0, 0, 0]), LV.nils, (LV.bool false), (LV.int .u32 0), (LV.int .i64 0), (LV.bool false), (LV.int .i64 0), (LV.str [])]) [(0, (LV.int .i64 5)), (2, (LV.int .i64 8)), (10, (LV.int .i64 58)), (3, t14_15), (4, t15_16), (11, (LV.str [104, 105]))] else some LV.undef).bind fun t16_17 =>
 (pr.guard t11_12 true).bind fun b18 =>
 (if b18 = true then pr.call g id_interpreterref04_Same u9.2 [t13_14, t16_17] else some LV.undef).bind fun t17_18 =>
 (pr.pick t11_12 t17_18 (LV.bool false)).bind fun t18_19 =>
 pr.fin none u9.2 [t18_19]
theorem F_interpreterlaw12_awake_eq (g : Call) : fnEv g c_interpreterlaw12_awake [] none = F_interpreterlaw12_awake g := by kernel_rfl

/-- interpreter/interpreterref04.Same -/
noncomputable def F_interpreterref04_Same (g : Call) (a0 : LV) (a1 : LV) : Option (LV × Option LV) :=
 (pr.box a0).bind fun t2_0 =>
 (pr.box a1).bind fun t3_1 =>
 (pr.fieldAddr 5 35 t2_0).bind fun t6_3 =>
 (pr.load 1 false noSlots t6_3).bind fun t7_4 =>
 (pr.len false t7_4).bind fun t8_5 =>
 (pr.fieldAddr 5 35 t3_1).bind fun t9_6 =>
 (pr.load 1 false noSlots t9_6).bind fun t10_7 =>
 (pr.len false t10_7).bind fun t11_8 =>
 (pr.bin .neq t8_5 t11_8).bind fun t12_9 =>
 condK t12_9 (
 pr.fin none noSlots [(LV.bool false)]) (
 (whileW (fun q12 : List LV × Slots =>
 (pr.fieldAddr 5 35 t2_0).bind fun t14_14 =>
 (pr.load 1 false q12.2 t14_14).bind fun t15_15 =>
 (pr.len false t15_15).bind fun t16_16 =>
 (pr.bin .lss (getL q12.1 1) t16_16).bind fun t17_17 =>
 condK t17_17 (
 (pr.fieldAddr 5 35 t2_0).bind fun t20_18 =>
 (pr.load 1 false q12.2 t20_18).bind fun t21_19 =>
 (pr.idxAddr none 2 t21_19 (getL q12.1 1)).bind fun t23_21 =>
 (pr.load 2 true q12.2 t23_21).bind fun t24_22 =>
 (pr.fieldAddr 5 35 t3_1).bind fun t25_23 =>
 (pr.load 1 false q12.2 t25_23).bind fun t26_24 =>
 (pr.idxAddr none 2 t26_24 (getL q12.1 1)).bind fun t28_26 =>
 (pr.load 2 true q12.2 t28_26).bind fun t29_27 =>
 (pr.eqS (Sh.agg [(Sh.int .i64), Sh.str]) true t24_22 t29_27).bind fun t30_28 =>
 condK t30_28 (
 pr.round noSlots .ret [(LV.bool false), (getL q12.1 1)] q12.2) (
 (pr.bin .add (getL q12.1 1) (LV.int .i64 1)).bind fun t19_31 =>
 pr.round noSlots .normal [(getL q12.1 0), t19_31] q12.2)) (
 pr.round noSlots (.exit 0) [(getL q12.1 0), (getL q12.1 1)] q12.2)) ([(LV.bool false), (LV.int .i64 0)], noSlots)).bind fun r12 =>
 exIf r12.1 (.exit 0) (
 (pr.fieldAddr 0 0 t2_0).bind fun t31_33 =>
 (pr.load 1 false r12.2.2 t31_33).bind fun t32_34 =>
 (pr.fieldAddr 0 0 t3_1).bind fun t33_35 =>
 (pr.load 1 false r12.2.2 t33_35).bind fun t34_36 =>
 (pr.bin .eql t32_34 t34_36).bind fun t35_37 =>
 (pr.guard t35_37 true).bind fun b39 =>
 (if b39 = true then pr.fieldAddr 1 1 t2_0 else some LV.undef).bind fun t37_39 =>
 (pr.guard t35_37 true).bind fun b40 =>
 (if b40 = true then pr.load 1 false r12.2.2 t37_39 else some LV.undef).bind fun t38_40 =>
 (pr.guard t35_37 true).bind fun b41 =>
 (if b41 = true then pr.fieldAddr 1 1 t3_1 else some LV.undef).bind fun t39_41 =>
 (pr.guard t35_37 true).bind fun b42 =>
 (if b42 = true then pr.load 1 false r12.2.2 t39_41 else some LV.undef).bind fun t40_42 =>
 (pr.guard t35_37 true).bind fun b43 =>
 (if b43 = true then pr.bin .eql t38_40 t40_42 else some LV.undef).bind fun t41_43 =>
 (pr.pick t35_37 t41_43 (LV.bool false)).bind fun t42_44 =>
 (pr.guard t42_44 true).bind fun b46 =>
 (if b46 = true then pr.fieldAddr 2 2 t2_0 else some LV.undef).bind fun t44_46 =>
 (pr.guard t42_44 true).bind fun b47 =>
 (if b47 = true then pr.load 1 false r12.2.2 t44_46 else some LV.undef).bind fun t45_47 =>
 (pr.guard t42_44 true).bind fun b48 =>
 (if b48 = true then pr.fieldAddr 2 2 t3_1 else some LV.undef).bind fun t46_48 =>
 (pr.guard t42_44 true).bind fun b49 =>
 (if b49 = true then pr.load 1 false r12.2.2 t46_48 else some LV.undef).bind fun t47_49 =>
 (pr.guard t42_44 true).bind fun b50 =>
 (if b50 = true then pr.bin .eql t45_47 t47_49 else some LV.undef).bind fun t48_50 =>
 (pr.pick t42_44 t48_50 (LV.bool false)).bind fun t49_51 =>
 (pr.guard t49_51 true).bind fun b53 =>
 (if b53 = true then pr.fieldAddr 3 3 t2_0 else some LV.undef).bind fun t51_53 =>
 (pr.guard t49_51 true).bind fun b54 =>
 (if b54 = true then pr.load 16 true r12.2.2 t51_53 else some LV.undef).bind fun t52_54 =>
 (pr.guard t49_51 true).bind fun b55 =>
 (if b55 = true then pr.fieldAddr 3 3 t3_1 else some LV.undef).bind fun t53_55 =>
 (pr.guard t49_51 true).bind fun b56 =>
 (if b56 = true then pr.load 16 true r12.2.2 t53_55 else some LV.undef).bind fun t54_56 =>
 (pr.guard t49_51 true).bind fun b57 =>
 (if b57 = true then pr.eqS (Sh.bytes 16) false t52_54 t54_56 else some LV.undef).bind fun t55_57 =>
 (pr.pick t49_51 t55_57 (LV.bool false)).bind fun t56_58 =>
 (pr.guard t56_58 true).bind fun b60 =>
 (if b60 = true then pr.fieldAddr 4 19 t2_0 else some LV.undef).bind fun t58_60 =>
 (pr.guard t56_58 true).bind fun b61 =>
 (if b61 = true then pr.load 16 true r12.2.2 t58_60 else some LV.undef).bind fun t59_61 =>
 (pr.guard t56_58 true).bind fun b62 =>
 (if b62 = true then pr.fieldAddr 4 19 t3_1 else some LV.undef).bind fun t60_62 =>
 (pr.guard t56_58 true).bind fun b63 =>
 (if b63 = true then pr.load 16 true r12.2.2 t60_62 else some LV.undef).bind fun t61_63 =>
 (pr.guard t56_58 true).bind fun b64 =>
 (if b64 = true then pr.eqS (Sh.bytes 16) false t59_61 t61_63 else some LV.undef).bind fun t62_64 =>
 (pr.pick t56_58 t62_64 (LV.bool false)).bind fun t63_65 =>
 (pr.guard t63_65 true).bind fun b67 =>
 (if b67 = true then pr.fieldAddr 6 36 t2_0 else some LV.undef).bind fun t65_67 =>
 (pr.guard t63_65 true).bind fun b68 =>
 (if b68 = true then pr.load 1 false r12.2.2 t65_67 else some LV.undef).bind fun t66_68 =>
 (pr.guard t63_65 true).bind fun b69 =>
 (if b69 = true then pr.fieldAddr 6 36 t3_1 else some LV.undef).bind fun t67_69 =>
 (pr.guard t63_65 true).bind fun b70 =>
 (if b70 = true then pr.load 1 false r12.2.2 t67_69 else some LV.undef).bind fun t68_70 =>
 (pr.guard t63_65 true).bind fun b71 =>
 (if b71 = true then pr.eqB false t66_68 t68_70 else some LV.undef).bind fun t69_71 =>
 (pr.pick t63_65 t69_71 (LV.bool false)).bind fun t70_72 =>
 (pr.guard t70_72 true).bind fun b74 =>
 (if b74 = true then pr.fieldAddr 7 37 t2_0 else some LV.undef).bind fun t72_74 =>
 (pr.guard t70_72 true).bind fun b75 =>
 (if b75 = true then pr.load 1 false r12.2.2 t72_74 else some LV.undef).bind fun t73_75 =>
 (pr.guard t70_72 true).bind fun b76 =>
 (if b76 = true then pr.fieldAddr 7 37 t3_1 else some LV.undef).bind fun t74_76 =>
 (pr.guard t70_72 true).bind fun b77 =>
 (if b77 = true then pr.load 1 false r12.2.2 t74_76 else some LV.undef).bind fun t75_77 =>
 (pr.guard t70_72 true).bind fun b78 =>
 (if b78 = true then pr.bin .eql t73_75 t75_77 else some LV.undef).bind fun t76_78 =>
 (pr.pick t70_72 t76_78 (LV.bool false)).bind fun t77_79 =>
 (pr.guard t77_79 true).bind fun b81 =>
 (if b81 = true then pr.fieldAddr 8 38 t2_0 else some LV.undef).bind fun t79_81 =>
 (pr.guard t77_79 true).bind fun b82 =>
 (if b82 = true then pr.load 1 false r12.2.2 t79_81 else some LV.undef).bind fun t80_82 =>
 (pr.guard t77_79 true).bind fun b83 =>
 (if b83 = true then pr.fieldAddr 8 38 t3_1 else some LV.undef).bind fun t81_83 =>
 (pr.guard t77_79 true).bind fun b84 =>
 (if b84 = true then pr.load 1 false r12.2.2 t81_83 else some LV.undef).bind fun t82_84 =>
 (pr.guard t77_79 true).bind fun b85 =>
 (if b85 = true then pr.bin .eql t80_82 t82_84 else some LV.undef).bind fun t83_85 =>
 (pr.pick t77_79 t83_85 (LV.bool false)).bind fun t84_86 =>
 (pr.guard t84_86 true).bind fun b88 =>
 (if b88 = true then pr.fieldAddr 9 39 t2_0 else some LV.undef).bind fun t86_88 =>
 (pr.guard t84_86 true).bind fun b89 =>
 (if b89 = true then pr.load 1 false r12.2.2 t86_88 else some LV.undef).bind fun t87_89 =>
 (pr.guard t84_86 true).bind fun b90 =>
 (if b90 = true then pr.fieldAddr 9 39 t3_1 else some LV.undef).bind fun t88_90 =>
 (pr.guard t84_86 true).bind fun b91 =>
 (if b91 = true then pr.load 1 false r12.2.2 t88_90 else some LV.undef).bind fun t89_91 =>
 (pr.guard t84_86 true).bind fun b92 =>
 (if b92 = true then pr.eqB false t87_89 t89_91 else some LV.undef).bind fun t90_92 =>
 (pr.pick t84_86 t90_92 (LV.bool false)).bind fun t91_93 =>
 (pr.guard t91_93 true).bind fun b95 =>
 (if b95 = true then pr.fieldAddr 10 40 t2_0 else some LV.undef).bind fun t93_95 =>
 (pr.guard t91_93 true).bind fun b96 =>
 (if b96 = true then pr.load 1 false r12.2.2 t93_95 else some LV.undef).bind fun t94_96 =>
 (pr.guard t91_93 true).bind fun b97 =>
 (if b97 = true then pr.fieldAddr 10 40 t3_1 else some LV.undef).bind fun t95_97 =>
 (pr.guard t91_93 true).bind fun b98 =>
 (if b98 = true then pr.load 1 false r12.2.2 t95_97 else some LV.undef).bind fun t96_98 =>
 (pr.guard t91_93 true).bind fun b99 =>
 (if b99 = true then pr.bin .eql t94_96 t96_98 else some LV.undef).bind fun t97_99 =>
 (pr.pick t91_93 t97_99 (LV.bool false)).bind fun t98_100 =>
 (pr.guard t98_100 true).bind fun b102 =>
 (if b102 = true then pr.fieldAddr 11 41 t2_0 else some LV.undef).bind fun t100_102 =>
 (pr.guard t98_100 true).bind fun b103 =>
 (if b103 = true then pr.load 1 false r12.2.2 t100_102 else some LV.undef).bind fun t101_103 =>
 (pr.guard t98_100 true).bind fun b104 =>
 (if b104 = true then pr.fieldAddr 11 41 t3_1 else some LV.undef).bind fun t102_104 =>
 (pr.guard t98_100 true).bind fun b105 =>
 (if b105 = true then pr.load 1 false r12.2.2 t102_104 else some LV.undef).bind fun t103_105 =>
 (pr.guard t98_100 true).bind fun b106 =>
 (if b106 = true then pr.bin .eql t101_103 t103_105 else some LV.undef).bind fun t104_106 =>
 (pr.pick t98_100 t104_106 (LV.bool false)).bind fun t105_107 =>
 pr.fin none r12.2.2 [t105_107]) (exIf r12.1 .ret (
 pr.fin none r12.2.2 [(getL r12.2.1 0)]) (none)))
theorem F_interpreterref04_Same_eq (g : Call) (a0 : LV) (a1 : LV) : fnEv g c_interpreterref04_Same [a0, a1] none = F_interpreterref04_Same g a0 a1 := by kernel_rfl

/-- interpreter/interpreterlaw12.same -/
noncomputable def F_interpreterlaw12_same (g : Call) (a0 : LV) (a1 : LV) : Option (LV × Option LV) :=
 (pr.bin .eql a1 (LV.int .i64 0)).bind fun t8_2 =>
 condK t8_2 (
 (pr.eqNil 1 false a0).bind fun t10_4 =>
 pr.fin none noSlots [t10_4]) (
 (pr.assert ty_ptr_num_Fault true LV.nilp a0).bind fun t13_7 =>
 (pr.extract t13_7 0).bind fun t14_9 =>
 (pr.extract t13_7 1).bind fun t15_10 =>
 (pr.guard t15_10 true).bind fun b15 =>
 (if b15 = true then some t14_9 else some LV.undef).bind fun t18_15 =>
 (pr.guard t15_10 true).bind fun b16 =>
 (if b16 = true then pr.eqNil 0 true t18_15 else some LV.undef).bind fun t19_16 =>
 (pr.pick t15_10 t19_16 (LV.bool false)).bind fun t20_17 =>
 (pr.guard t20_17 true).bind fun b19 =>
 (if b19 = true then some t14_9 else some LV.undef).bind fun t22_19 =>
 (pr.guard t20_17 true).bind fun b20 =>
 (if b20 = true then pr.nilCheck t22_19 else some LV.undef).bind fun t23_20 =>
 (pr.guard t20_17 true).bind fun b21 =>
 (if b21 = true then pr.fieldAddr 0 0 t23_20 else some LV.undef).bind fun t24_21 =>
 (pr.guard t20_17 true).bind fun b22 =>
 (if b22 = true then pr.load 1 false noSlots t24_21 else some LV.undef).bind fun t25_22 =>
 (pr.guard t20_17 true).bind fun b23 =>
 (if b23 = true then some a1 else some LV.undef).bind fun t26_23 =>
 (pr.guard t20_17 true).bind fun b24 =>
 (if b24 = true then pr.bin .eql t25_22 t26_23 else some LV.undef).bind fun t27_24 =>
 (pr.pick t20_17 t27_24 (LV.bool false)).bind fun t28_25 =>
 (pr.guard t28_25 true).bind fun b27 =>
 (if b27 = true then some t14_9 else some LV.undef).bind fun t30_27 =>
 (pr.guard t28_25 true).bind fun b28 =>
 (if b28 = true then pr.nilCheck t30_27 else some LV.undef).bind fun t31_28 =>
 (pr.guard t28_25 true).bind fun b29 =>
 (if b29 = true then pr.fieldAddr 1 1 t31_28 else some LV.undef).bind fun t32_29 =>
 (pr.guard t28_25 true).bind fun b30 =>
 (if b30 = true then pr.load 1 false noSlots t32_29 else some LV.undef).bind fun t33_30 =>
 (pr.guard t28_25 true).bind fun b31 =>
 (if b31 = true then pr.bin .eql t33_30 (LV.int .i64 0) else some LV.undef).bind fun t34_31 =>
 (pr.pick t28_25 t34_31 (LV.bool false)).bind fun t35_32 =>
 pr.fin none noSlots [t35_32])
theorem F_interpreterlaw12_same_eq (g : Call) (a0 : LV) (a1 : LV) : fnEv g c_interpreterlaw12_same [a0, a1] none = F_interpreterlaw12_same g a0 a1 := by kernel_rfl

/-- interpreter/interpreterref12.Head -/
noncomputable def F_interpreterref12_Head (g : Call) (a0 : LV) (a1 : LV) (a2 : LV) : Option (LV × Option LV) :=
 (pr.box a0).bind fun t3_0 =>
 (pr.box a1).bind fun t4_1 =>
 (pr.box a2).bind fun t5_2 =>
 (pr.alloc (LV.agg [(LV.int .i64 0), (LV.int .i64 0), (LV.int .i64 0), (LV.bytes [0, 0, 0, 0, 0, 0, 0, 0, 0, 0, 0, 0, 0, 0, 0, 0]), (LV.bytes [0, 0, 0, 0, 0, 0, 0, 0, 0, 0, 0, 0, 0, 0, 0, 0]), LV.nils, (LV.bool false), (LV.int .u32 0), (LV.int .i64 0), (LV.bool false), (LV.int .i64 0), (LV.str [])]) 6 noSlots).bind fun t6_3 =>
 (pr.parts (LV.agg [(LV.int .i64 0), (LV.int .i64 0), (LV.int .i64 0), (LV.bytes [0, 0, 0, 0, 0, 0, 0, 0, 0, 0, 0, 0, 0, 0, 0, 0]), (LV.bytes [0, 0, 0, 0, 0, 0, 0, 0, 0, 0, 0, 0, 0, 0, 0, 0]), LV.nils, (LV.bool false), (LV.int .u32 0), (LV.int .i64 0), (LV.bool false), (LV.int .i64 0), (LV.str [])]) []).bind fun t14_5 =>
 (pr.alloc (LV.agg [(LV.int .i64 0), (LV.int .i64 0), (LV.int .i64 0), (LV.bytes [0, 0, 0, 0, 0, 0, 0, 0, 0, 0, 0, 0, 0, 0, 0, 0]), (LV.bytes [0, 0, 0, 0, 0, 0, 0, 0, 0, 0, 0, 0, 0, 0, 0, 0]), LV.nils, (LV.bool false), (LV.int .u32 0), (LV.int .i64 0), (LV.bool false), (LV.int .i64 0), (LV.str [])]) 8 t6_3.2).bind fun t8_6 =>
 (pr.store 42 true t8_6.2 t8_6.1 t14_5).bind fun u7 =>
 (pr.fieldAddr 2 2 t3_0).bind fun t15_8 =>
 (pr.load 1 false u7.2 t15_8).bind fun t16_9 =>
 (pr.bin .lss t16_9 (LV.int .i64 2)).bind fun t17_10 =>
 (pr.guard t17_10 false).bind fun b12 =>
 (if b12 = true then pr.fieldAddr 2 2 t3_0 else some LV.undef).bind fun t19_12 =>
 (pr.guard t17_10 false).bind fun b13 =>
 (if b13 = true then pr.load 1 false u7.2 t19_12 else some LV.undef).bind fun t20_13 =>
 (pr.guard t17_10 false).bind fun b14 =>
 (if b14 = true then pr.bin .gtr t20_13 (LV.int .i64 255) else some LV.undef).bind fun t21_14 =>
 (pr.pick t17_10 (LV.bool true) t21_14).bind fun t22_15 =>
 (pr.guard t22_15 false).bind fun b17 =>
 (if b17 = true then pr.fieldAddr 0 0 t3_0 else some LV.undef).bind fun t24_17 =>
 (pr.guard t22_15 false).bind fun b18 =>
 (if b18 = true then pr.load 1 false u7.2 t24_17 else some LV.undef).bind fun t25_18 =>
 (pr.guard t22_15 false).bind fun b19 =>
 (if b19 = true then pr.bin .lss t25_18 (LV.int .i64 0) else some LV.undef).bind fun t26_19 =>
 (pr.pick t22_15 (LV.bool true) t26_19).bind fun t27_20 =>
 (pr.guard t27_20 false).bind fun b22 =>
 (if b22 = true then pr.fieldAddr 0 0 t3_0 else some LV.undef).bind fun t29_22 =>
 (pr.guard t27_20 false).bind fun b23 =>
 (if b23 = true then pr.load 1 false u7.2 t29_22 else some LV.undef).bind fun t30_23 =>
 (pr.guard t27_20 false).bind fun b24 =>
 (if b24 = true then pr.bin .gtr t30_23 (LV.int .i64 255) else some LV.undef).bind fun t31_24 =>
 (pr.pick t27_20 (LV.bool true) t31_24).bind fun t32_25 =>
 condK t32_25 (
 (pr.load 42 true u7.2 t8_6.1).bind fun t33_26 =>
 (pr.store 42 true u7.2 t6_3.1 t33_26).bind fun u27 =>
 (pr.load 42 true u27.2 t6_3.1).bind fun v29 =>
 pr.fin none u27.2 [v29, (LV.int .i64 13)]) (
 (pr.fieldAddr 9 15 t3_0).bind fun t35_30 =>
 (pr.load 1 false u7.2 t35_30).bind fun t36_31 =>
 (pr.call g id_interpreterref03_Routed u7.2 [t36_31]).bind fun t37_32 =>
 (pr.extract t37_32 0).bind fun t38_34 =>
 (pr.extract t37_32 1).bind fun t39_35 =>
 (pr.bin .neq t39_35 (LV.int .i64 0)).bind fun t41_39 =>
 condK t41_39 (
 (pr.load 42 true u7.2 t8_6.1).bind fun t42_40 =>
 (pr.store 42 true u7.2 t6_3.1 t42_40).bind fun u42 =>
 (pr.load 42 true u42.2 t6_3.1).bind fun v44 =>
 pr.fin none u42.2 [v44, t39_35]) (
 condK t38_34 (
 (pr.load 42 true u7.2 t8_6.1).bind fun t45_46 =>
 (pr.store 42 true u7.2 t6_3.1 t45_46).bind fun u47 =>
 (pr.load 42 true u47.2 t6_3.1).bind fun v49 =>
 pr.fin none u47.2 [v49, (LV.int .i64 10)]) (
 (pr.fieldAddr 3 3 t3_0).bind fun t47_50 =>
 (pr.load 1 false u7.2 t47_50).bind fun t48_51 =>
 (pr.call g id_interpreterref12_Proto u7.2 [t48_51]).bind fun t49_52 =>
 (pr.extract t49_52 0).bind fun t50_54 =>
 (pr.extract t49_52 1).bind fun t51_55 =>
 (pr.un .not t51_55).bind fun t53_59 =>
 condK t53_59 (
 (pr.load 42 true u7.2 t8_6.1).bind fun t54_60 =>
 (pr.store 42 true u7.2 t6_3.1 t54_60).bind fun u61 =>
 (pr.load 42 true u61.2 t6_3.1).bind fun v63 =>
 pr.fin none u61.2 [v63, (LV.int .i64 10)]) (
 (pr.load 42 true u7.2 t8_6.1).bind fun t55_64 =>
 (pr.alloc (LV.agg [(LV.int .i64 0), (LV.int .i64 0), (LV.int .i64 0), (LV.bytes [0, 0, 0, 0, 0, 0, 0, 0, 0, 0, 0, 0, 0, 0, 0, 0]), (LV.bytes [0, 0, 0, 0, 0, 0, 0, 0, 0, 0, 0, 0, 0, 0, 0, 0]), LV.nils, (LV.bool false), (LV.int .u32 0), (LV.int .i64 0), (LV.bool false), (LV.int .i64 0), (LV.str [])]) 13 u7.2).bind fun t13_65 =>
 (pr.store 42 true t13_65.2 t13_65.1 t55_64).bind fun u66 =>
 (pr.fieldAddr 0 0 t3_0).bind fun t56_67 =>
 (pr.load 1 false u66.2 t56_67).bind fun t57_68 =>
 (pr.fieldAddr 0 0 t13_65.1).bind fun t58_69 =>
 (pr.store 1 false u66.2 t58_69 t57_68).bind fun u70 =>
 (pr.fieldAddr 2 2 t3_0).bind fun t59_71 =>
 (pr.load 1 false u70.2 t59_71).bind fun t60_72 =>
 (pr.bin .sub t60_72 (LV.int .i64 1)).bind fun t61_73 =>
 (pr.fieldAddr 2 2 t13_65.1).bind fun t62_74 =>
 (pr.store 1 false u70.2 t62_74 t61_73).bind fun u75 =>
 (pr.load 16 true u75.2 t4_1).bind fun t63_76 =>
 (pr.fieldAddr 3 3 t13_65.1).bind fun t64_77 =>
 (pr.store 16 true u75.2 t64_77 t63_76).bind fun u78 =>
 (pr.load 16 true u78.2 t5_2).bind fun t65_79 =>
 (pr.fieldAddr 4 19 t13_65.1).bind fun t66_80 =>
 (pr.store 16 true u78.2 t66_80 t65_79).bind fun u81 =>
 (pr.fieldAddr 10 40 t13_65.1).bind fun t68_83 =>
 (pr.store 1 false u81.2 t68_83 t50_54).bind fun u84 =>
 (pr.fieldAddr 10 16 t3_0).bind fun t69_85 =>
 (pr.load 1 false u84.2 t69_85).bind fun t70_86 =>
 (pr.fieldAddr 11 41 t13_65.1).bind fun t71_87 =>
 (pr.store 1 false u84.2 t71_87 t70_86).bind fun u88 =>
 (pr.fieldAddr 6 6 t3_0).bind fun t72_89 =>
 (pr.load 1 false u88.2 t72_89).bind fun t73_90 =>
 (pr.guard t73_90 false).bind fun b92 =>
 (if b92 = true then pr.fieldAddr 4 4 t3_0 else some LV.undef).bind fun t75_92 =>
 (pr.guard t73_90 false).bind fun b93 =>
 (if b93 = true then pr.load 1 false u88.2 t75_92 else some LV.undef).bind fun t76_93 =>
 (pr.guard t73_90 false).bind fun b94 =>
 (if b94 = true then pr.bin .neq t76_93 (LV.int .i64 0) else some LV.undef).bind fun t77_94 =>
 (pr.pick t73_90 (LV.bool true) t77_94).bind fun t78_95 =>
 condK t78_95 (
 (pr.fieldAddr 6 36 t13_65.1).bind fun t79_96 =>
 (pr.store 1 false u88.2 t79_96 (LV.bool true)).bind fun u97 =>
 (pr.fieldAddr 1 1 t3_0).bind fun t80_98 =>
 (pr.load 1 false u97.2 t80_98).bind fun t81_99 =>
 (pr.conv .u32 t81_99).bind fun t82_100 =>
 (pr.fieldAddr 7 37 t13_65.1).bind fun t83_101 =>
 (pr.store 1 false u97.2 t83_101 t82_100).bind fun u102 =>
 (pr.fieldAddr 4 4 t3_0).bind fun t84_103 =>
 (pr.load 1 false u102.2 t84_103).bind fun t85_104 =>
 (pr.fieldAddr 8 38 t13_65.1).bind fun t86_105 =>
 (pr.store 1 false u102.2 t86_105 t85_104).bind fun u106 =>
 (pr.fieldAddr 6 6 t3_0).bind fun t87_107 =>
 (pr.load 1 false u106.2 t87_107).bind fun t88_108 =>
 (pr.fieldAddr 9 39 t13_65.1).bind fun t89_109 =>
 (pr.store 1 false u106.2 t89_109 t88_108).bind fun u110 =>
 (pr.load 42 true u110.2 t13_65.1).bind fun t90_111 =>
 (pr.store 42 true u110.2 t6_3.1 t90_111).bind fun u112 =>
 (pr.load 42 true u112.2 t6_3.1).bind fun v114 =>
 pr.fin none u112.2 [v114, (LV.int .i64 0)]) (
 (pr.load 42 true u88.2 t13_65.1).bind fun t90_115 =>
 (pr.store 42 true u88.2 t6_3.1 t90_115).bind fun u116 =>
 (pr.load 42 true u116.2 t6_3.1).bind fun v118 =>
 pr.fin none u116.2 [v118, (LV.int .i64 0)])))))
theorem F_interpreterref12_Head_eq (g : Call) (a0 : LV) (a1 : LV) (a2 : LV) : fnEv g c_interpreterref12_Head [a0, a1, a2] none = F_interpreterref12_Head g a0 a1 a2 := by kernel_rfl

/-- interpreter/head46.Proto -/
noncomputable def F_head46_Proto (g : Call) (a0 : LV) : Option (LV × Option LV) :=
 (pr.bin .eql a0 (LV.int .i64 1)).bind fun t6_3 =>
 condK t6_3 (
 pr.fin none noSlots [(LV.int .i64 58), (LV.bool true)]) (
 (pr.bin .eql a0 (LV.int .i64 0)).bind fun t8_7 =>
 condK t8_7 (
 condK t8_7 (
 pr.fin none noSlots [(LV.int .i64 0), (LV.bool false)]) (
 (pr.bin .lss a0 (LV.int .i64 0)).bind fun t15_12 =>
 (pr.guard t15_12 false).bind fun b14 =>
 (if b14 = true then some a0 else some LV.undef).bind fun t17_14 =>
 (pr.guard t15_12 false).bind fun b15 =>
 (if b15 = true then pr.bin .gtr t17_14 (LV.int .i64 255) else some LV.undef).bind fun t18_15 =>
 (pr.pick t15_12 (LV.bool true) t18_15).bind fun t19_16 =>
 condK t19_16 (
 pr.fin none noSlots [(LV.int .i64 0), (LV.bool false)]) (
 pr.fin none noSlots [a0, (LV.bool true)]))) (
 (pr.bin .eql a0 (LV.int .i64 2)).bind fun t9_22 =>
 condK t9_22 (
 condK t9_22 (
 pr.fin none noSlots [(LV.int .i64 0), (LV.bool false)]) (
 (pr.bin .lss a0 (LV.int .i64 0)).bind fun t15_27 =>
 (pr.guard t15_27 false).bind fun b29 =>
 (if b29 = true then some a0 else some LV.undef).bind fun t17_29 =>
 (pr.guard t15_27 false).bind fun b30 =>
 (if b30 = true then pr.bin .gtr t17_29 (LV.int .i64 255) else some LV.undef).bind fun t18_30 =>
 (pr.pick t15_27 (LV.bool true) t18_30).bind fun t19_31 =>
 condK t19_31 (
 pr.fin none noSlots [(LV.int .i64 0), (LV.bool false)]) (
 pr.fin none noSlots [a0, (LV.bool true)]))) (
 (pr.bin .eql a0 (LV.int .i64 43)).bind fun t10_37 =>
 condK t10_37 (
 condK t10_37 (
 pr.fin none noSlots [(LV.int .i64 0), (LV.bool false)]) (
 (pr.bin .lss a0 (LV.int .i64 0)).bind fun t15_42 =>
 (pr.guard t15_42 false).bind fun b44 =>
 (if b44 = true then some a0 else some LV.undef).bind fun t17_44 =>
 (pr.guard t15_42 false).bind fun b45 =>
 (if b45 = true then pr.bin .gtr t17_44 (LV.int .i64 255) else some LV.undef).bind fun t18_45 =>
 (pr.pick t15_42 (LV.bool true) t18_45).bind fun t19_46 =>
 condK t19_46 (
 pr.fin none noSlots [(LV.int .i64 0), (LV.bool false)]) (
 pr.fin none noSlots [a0, (LV.bool true)]))) (
 (pr.bin .eql a0 (LV.int .i64 44)).bind fun t11_52 =>
 condK t11_52 (
 condK t11_52 (
 pr.fin none noSlots [(LV.int .i64 0), (LV.bool false)]) (
 (pr.bin .lss a0 (LV.int .i64 0)).bind fun t15_57 =>
 (pr.guard t15_57 false).bind fun b59 =>
 (if b59 = true then some a0 else some LV.undef).bind fun t17_59 =>
 (pr.guard t15_57 false).bind fun b60 =>
 (if b60 = true then pr.bin .gtr t17_59 (LV.int .i64 255) else some LV.undef).bind fun t18_60 =>
 (pr.pick t15_57 (LV.bool true) t18_60).bind fun t19_61 =>
 condK t19_61 (
 pr.fin none noSlots [(LV.int .i64 0), (LV.bool false)]) (
 pr.fin none noSlots [a0, (LV.bool true)]))) (
 (pr.bin .eql a0 (LV.int .i64 58)).bind fun t12_67 =>
 condK t12_67 (
 condK t12_67 (
 pr.fin none noSlots [(LV.int .i64 0), (LV.bool false)]) (
 (pr.bin .lss a0 (LV.int .i64 0)).bind fun t15_72 =>
 (pr.guard t15_72 false).bind fun b74 =>
 (if b74 = true then some a0 else some LV.undef).bind fun t17_74 =>
 (pr.guard t15_72 false).bind fun b75 =>
 (if b75 = true then pr.bin .gtr t17_74 (LV.int .i64 255) else some LV.undef).bind fun t18_75 =>
 (pr.pick t15_72 (LV.bool true) t18_75).bind fun t19_76 =>
 condK t19_76 (
 pr.fin none noSlots [(LV.int .i64 0), (LV.bool false)]) (
 pr.fin none noSlots [a0, (LV.bool true)]))) (
 (pr.bin .eql a0 (LV.int .i64 60)).bind fun t13_82 =>
 condK t13_82 (
 pr.fin none noSlots [(LV.int .i64 0), (LV.bool false)]) (
 (pr.bin .lss a0 (LV.int .i64 0)).bind fun t15_87 =>
 (pr.guard t15_87 false).bind fun b89 =>
 (if b89 = true then some a0 else some LV.undef).bind fun t17_89 =>
 (pr.guard t15_87 false).bind fun b90 =>
 (if b90 = true then pr.bin .gtr t17_89 (LV.int .i64 255) else some LV.undef).bind fun t18_90 =>
 (pr.pick t15_87 (LV.bool true) t18_90).bind fun t19_91 =>
 condK t19_91 (
 pr.fin none noSlots [(LV.int .i64 0), (LV.bool false)]) (
 pr.fin none noSlots [a0, (LV.bool true)]))))))))
theorem F_head46_Proto_eq (g : Call) (a0 : LV) : fnEv g c_head46_Proto [a0] none = F_head46_Proto g a0 := by kernel_rfl

/-- interpreter/interpreterref12.Proto -/
noncomputable def F_interpreterref12_Proto (g : Call) (a0 : LV) : Option (LV × Option LV) :=
 (pr.bin .eql a0 (LV.int .i64 1)).bind fun t5_3 =>
 condK t5_3 (
 pr.fin none noSlots [(LV.int .i64 58), (LV.bool true)]) (
 (pr.bin .leq a0 (LV.int .i64 0)).bind fun t7_7 =>
 (pr.guard t7_7 false).bind fun b9 =>
 (if b9 = true then some a0 else some LV.undef).bind fun t9_9 =>
 (pr.guard t7_7 false).bind fun b10 =>
 (if b10 = true then pr.bin .eql t9_9 (LV.int .i64 2) else some LV.undef).bind fun t10_10 =>
 (pr.pick t7_7 (LV.bool true) t10_10).bind fun t11_11 =>
 (pr.guard t11_11 false).bind fun b13 =>
 (if b13 = true then some a0 else some LV.undef).bind fun t13_13 =>
 (pr.guard t11_11 false).bind fun b14 =>
 (if b14 = true then pr.bin .eql t13_13 (LV.int .i64 43) else some LV.undef).bind fun t14_14 =>
 (pr.pick t11_11 (LV.bool true) t14_14).bind fun t15_15 =>
 (pr.guard t15_15 false).bind fun b17 =>
 (if b17 = true then some a0 else some LV.undef).bind fun t17_17 =>
 (pr.guard t15_15 false).bind fun b18 =>
 (if b18 = true then pr.bin .eql t17_17 (LV.int .i64 44) else some LV.undef).bind fun t18_18 =>
 (pr.pick t15_15 (LV.bool true) t18_18).bind fun t19_19 =>
 (pr.guard t19_19 false).bind fun b21 =>
 (if b21 = true then some a0 else some LV.undef).bind fun t21_21 =>
 (pr.guard t19_19 false).bind fun b22 =>
 (if b22 = true then pr.bin .eql t21_21 (LV.int .i64 58) else some LV.undef).bind fun t22_22 =>
 (pr.pick t19_19 (LV.bool true) t22_22).bind fun t23_23 =>
 (pr.guard t23_23 false).bind fun b25 =>
 (if b25 = true then some a0 else some LV.undef).bind fun t25_25 =>
 (pr.guard t23_23 false).bind fun b26 =>
 (if b26 = true then pr.bin .eql t25_25 (LV.int .i64 60) else some LV.undef).bind fun t26_26 =>
 (pr.pick t23_23 (LV.bool true) t26_26).bind fun t27_27 =>
 (pr.guard t27_27 false).bind fun b29 =>
 (if b29 = true then some a0 else some LV.undef).bind fun t29_29 =>
 (pr.guard t27_27 false).bind fun b30 =>
 (if b30 = true then pr.bin .gtr t29_29 (LV.int .i64 255) else some LV.undef).bind fun t30_30 =>
 (pr.pick t27_27 (LV.bool true) t30_30).bind fun t31_31 =>
 condK t31_31 (
 pr.fin none noSlots [(LV.int .i64 0), (LV.bool false)]) (
 pr.fin none noSlots [a0, (LV.bool true)]))
theorem F_interpreterref12_Proto_eq (g : Call) (a0 : LV) : fnEv g c_interpreterref12_Proto [a0] none = F_interpreterref12_Proto g a0 := by kernel_rfl

/-- interpreter/ip6.Bytes -/
noncomputable def F_ip6_Bytes (g : Call) (a0 : LV) : Option (LV × Option LV) :=
 (pr.box a0).bind fun t1_0 =>
 (pr.load 42 true noSlots t1_0).bind fun t10_3 =>
 (pr.call g id_ip6_why noSlots [t10_3]).bind fun t11_4 =>
 (pr.bin .neq t11_4 (LV.int .i64 0)).bind fun t13_7 =>
 condK t13_7 (
 (pr.call g id_ip6_fault noSlots [t11_4]).bind fun t15_9 =>
 pr.fin none noSlots [(LV.str []), t15_9]) (
 (pr.fieldAddr 10 40 t1_0).bind fun t16_12 =>
 (pr.load 1 false noSlots t16_12).bind fun t17_13 =>
 (pr.fieldAddr 11 41 t1_0).bind fun t18_14 =>
 (pr.load 1 false noSlots t18_14).bind fun t19_15 =>
 (pr.fieldAddr 6 36 t1_0).bind fun t20_18 =>
 (pr.load 1 false noSlots t20_18).bind fun t21_19 =>
 condK t21_19 (
 (pr.fieldAddr 8 38 t1_0).bind fun t22_20 =>
 (pr.load 1 false noSlots t22_20).bind fun t23_21 =>
 (pr.fieldAddr 9 39 t1_0).bind fun t24_23 =>
 (pr.load 1 false noSlots t24_23).bind fun t25_24 =>
 condK t25_24 (
 (pr.bin .add t23_21 (LV.int .i64 1)).bind fun t27_26 =>
 (pr.call g id_ip6_big noSlots [t17_13, (LV.int .i64 1)]).bind fun t29_29 =>
 (pr.bin .add t29_29 (LV.str [0])).bind fun t30_30 =>
 (pr.call g id_ip6_big noSlots [t27_26, (LV.int .i64 2)]).bind fun t32_32 =>
 (pr.bin .add t30_30 t32_32).bind fun t33_33 =>
 (pr.fieldAddr 7 37 t1_0).bind fun t34_34 =>
 (pr.load 1 false noSlots t34_34).bind fun t35_35 =>
 (pr.conv .i64 t35_35).bind fun t36_36 =>
 (pr.call g id_ip6_big noSlots [t36_36, (LV.int .i64 4)]).bind fun t37_37 =>
 (pr.bin .add t33_33 t37_37).bind fun t38_38 =>
 (pr.bin .add t38_38 t19_15).bind fun t40_40 =>
 (pr.fieldAddr 5 35 t1_0).bind fun t41_43 =>
 (pr.load 1 false noSlots t41_43).bind fun t42_44 =>
 (pr.len false t42_44).bind fun t43_45 =>
 (pr.bin .sub t43_45 (LV.int .i64 1)).bind fun t44_46 =>
 (whileW (fun q48 : List LV × Slots =>
 (pr.bin .geq (getL q48.1 2) (LV.int .i64 0)).bind fun t46_50 =>
 condK t46_50 (
 (pr.fieldAddr 5 35 t1_0).bind fun t49_51 =>
 (pr.load 1 false q48.2 t49_51).bind fun t50_52 =>
 (pr.idxAddr none 2 t50_52 (getL q48.1 2)).bind fun t52_54 =>
 (pr.load 2 true q48.2 t52_54).bind fun t53_55 =>
 (pr.alloc (LV.agg [(LV.int .i64 0), (LV.str [])]) 9 q48.2).bind fun t9_56 =>
 (pr.store 2 true t9_56.2 t9_56.1 t53_55).bind fun u57 =>
 (pr.call g id_ip6_big u57.2 [(getL q48.1 1), (LV.int .i64 1)]).bind fun t55_59 =>
 (pr.fieldAddr 1 1 t9_56.1).bind fun t56_60 =>
 (pr.load 1 false u57.2 t56_60).bind fun t57_61 =>
 (pr.len true t57_61).bind fun t58_62 =>
 (pr.bin .quo t58_62 (LV.int .i64 8)).bind fun t59_63 =>
 (pr.call g id_ip6_big u57.2 [t59_63, (LV.int .i64 1)]).bind fun t60_64 =>
 (pr.bin .add t55_59 t60_64).bind fun t61_65 =>
 (pr.fieldAddr 1 1 t9_56.1).bind fun t62_66 =>
 (pr.load 1 false u57.2 t62_66).bind fun t63_67 =>
 (pr.bin .add t61_65 t63_67).bind fun t64_68 =>
 (pr.bin .add t64_68 (getL q48.1 0)).bind fun t66_70 =>
 (pr.fieldAddr 0 0 t9_56.1).bind fun t67_72 =>
 (pr.load 1 false u57.2 t67_72).bind fun t68_73 =>
 (pr.bin .sub (getL q48.1 2) (LV.int .i64 1)).bind fun t48_76 =>
 pr.round noSlots .normal [t66_70, t68_73, t48_76] u57.2) (
 pr.round noSlots (.exit 0) [(getL q48.1 0), (getL q48.1 1), (getL q48.1 2)] q48.2)) ([t40_40, (LV.int .i64 44), t44_46], noSlots)).bind fun r48 =>
 exIf r48.1 (.exit 0) (
 (pr.fieldAddr 0 0 t1_0).bind fun t69_78 =>
 (pr.load 1 false r48.2.2 t69_78).bind fun t70_79 =>
 (pr.bin .shl t70_79 (LV.int .u64 20)).bind fun t71_80 =>
 (pr.bin .or (LV.int .i64 1610612736) t71_80).bind fun t72_81 =>
 (pr.fieldAddr 1 1 t1_0).bind fun t73_82 =>
 (pr.load 1 false r48.2.2 t73_82).bind fun t74_83 =>
 (pr.bin .or t72_81 t74_83).bind fun t75_84 =>
 (pr.call g id_ip6_big r48.2.2 [t75_84, (LV.int .i64 4)]).bind fun t76_85 =>
 (pr.len true (getL r48.2.1 0)).bind fun t78_87 =>
 (pr.call g id_ip6_big r48.2.2 [t78_87, (LV.int .i64 2)]).bind fun t79_88 =>
 (pr.bin .add t76_85 t79_88).bind fun t80_89 =>
 (pr.call g id_ip6_big r48.2.2 [(getL r48.2.1 1), (LV.int .i64 1)]).bind fun t82_91 =>
 (pr.bin .add t80_89 t82_91).bind fun t83_92 =>
 (pr.fieldAddr 2 2 t1_0).bind fun t84_93 =>
 (pr.load 1 false r48.2.2 t84_93).bind fun t85_94 =>
 (pr.call g id_ip6_big r48.2.2 [t85_94, (LV.int .i64 1)]).bind fun t86_95 =>
 (pr.bin .add t83_92 t86_95).bind fun t87_96 =>
 (pr.fieldAddr 3 3 t1_0).bind fun t88_97 =>
 (pr.slcArr 16 r48.2.2 t88_97 none none).bind fun t89_98 =>
 (pr.b2s r48.2.2 t89_98).bind fun t90_99 =>
 (pr.bin .add t87_96 t90_99).bind fun t91_100 =>
 (pr.fieldAddr 4 19 t1_0).bind fun t92_101 =>
 (pr.slcArr 16 r48.2.2 t92_101 none none).bind fun t93_102 =>
 (pr.b2s r48.2.2 t93_102).bind fun t94_103 =>
 (pr.bin .add t91_100 t94_103).bind fun t95_104 =>
 (pr.bin .add t95_104 (getL r48.2.1 0)).bind fun t97_106 =>
 pr.fin none r48.2.2 [t97_106, LV.nili]) (none)) (
 (pr.call g id_ip6_big noSlots [t17_13, (LV.int .i64 1)]).bind fun t29_110 =>
 (pr.bin .add t29_110 (LV.str [0])).bind fun t30_111 =>
 (pr.call g id_ip6_big noSlots [t23_21, (LV.int .i64 2)]).bind fun t32_113 =>
 (pr.bin .add t30_111 t32_113).bind fun t33_114 =>
 (pr.fieldAddr 7 37 t1_0).bind fun t34_115 =>
 (pr.load 1 false noSlots t34_115).bind fun t35_116 =>
 (pr.conv .i64 t35_116).bind fun t36_117 =>
 (pr.call g id_ip6_big noSlots [t36_117, (LV.int .i64 4)]).bind fun t37_118 =>
 (pr.bin .add t33_114 t37_118).bind fun t38_119 =>
 (pr.bin .add t38_119 t19_15).bind fun t40_121 =>
 (pr.fieldAddr 5 35 t1_0).bind fun t41_124 =>
 (pr.load 1 false noSlots t41_124).bind fun t42_125 =>
 (pr.len false t42_125).bind fun t43_126 =>
 (pr.bin .sub t43_126 (LV.int .i64 1)).bind fun t44_127 =>
 (whileW (fun q129 : List LV × Slots =>
 (pr.bin .geq (getL q129.1 2) (LV.int .i64 0)).bind fun t46_131 =>
 condK t46_131 (
 (pr.fieldAddr 5 35 t1_0).bind fun t49_132 =>
 (pr.load 1 false q129.2 t49_132).bind fun t50_133 =>
 (pr.idxAddr none 2 t50_133 (getL q129.1 2)).bind fun t52_135 =>
 (pr.load 2 true q129.2 t52_135).bind fun t53_136 =>
 (pr.alloc (LV.agg [(LV.int .i64 0), (LV.str [])]) 9 q129.2).bind fun t9_137 =>
 (pr.store 2 true t9_137.2 t9_137.1 t53_136).bind fun u138 =>
 (pr.call g id_ip6_big u138.2 [(getL q129.1 1), (LV.int .i64 1)]).bind fun t55_140 =>
 (pr.fieldAddr 1 1 t9_137.1).bind fun t56_141 =>
 (pr.load 1 false u138.2 t56_141).bind fun t57_142 =>
 (pr.len true t57_142).bind fun t58_143 =>
 (pr.bin .quo t58_143 (LV.int .i64 8)).bind fun t59_144 =>
 (pr.call g id_ip6_big u138.2 [t59_144, (LV.int .i64 1)]).bind fun t60_145 =>
 (pr.bin .add t55_140 t60_145).bind fun t61_146 =>
 (pr.fieldAddr 1 1 t9_137.1).bind fun t62_147 =>
 (pr.load 1 false u138.2 t62_147).bind fun t63_148 =>
 (pr.bin .add t61_146 t63_148).bind fun t64_149 =>
 (pr.bin .add t64_149 (getL q129.1 0)).bind fun t66_151 =>
 (pr.fieldAddr 0 0 t9_137.1).bind fun t67_153 =>
 (pr.load 1 false u138.2 t67_153).bind fun t68_154 =>
 (pr.bin .sub (getL q129.1 2) (LV.int .i64 1)).bind fun t48_157 =>
 pr.round noSlots .normal [t66_151, t68_154, t48_157] u138.2) (
 pr.round noSlots (.exit 0) [(getL q129.1 0), (getL q129.1 1), (getL q129.1 2)] q129.2)) ([t40_121, (LV.int .i64 44), t44_127], noSlots)).bind fun r129 =>
 exIf r129.1 (.exit 0) (
 (pr.fieldAddr 0 0 t1_0).bind fun t69_159 =>
 (pr.load 1 false r129.2.2 t69_159).bind fun t70_160 =>
 (pr.bin .shl t70_160 (LV.int .u64 20)).bind fun t71_161 =>
 (pr.bin .or (LV.int .i64 1610612736) t71_161).bind fun t72_162 =>
 (pr.fieldAddr 1 1 t1_0).bind fun t73_163 =>
 (pr.load 1 false r129.2.2 t73_163).bind fun t74_164 =>
 (pr.bin .or t72_162 t74_164).bind fun t75_165 =>
 (pr.call g id_ip6_big r129.2.2 [t75_165, (LV.int .i64 4)]).bind fun t76_166 =>
 (pr.len true (getL r129.2.1 0)).bind fun t78_168 =>
 (pr.call g id_ip6_big r129.2.2 [t78_168, (LV.int .i64 2)]).bind fun t79_169 =>
 (pr.bin .add t76_166 t79_169).bind fun t80_170 =>
 (pr.call g id_ip6_big r129.2.2 [(getL r129.2.1 1), (LV.int .i64 1)]).bind fun t82_172 =>
 (pr.bin .add t80_170 t82_172).bind fun t83_173 =>
 (pr.fieldAddr 2 2 t1_0).bind fun t84_174 =>
 (pr.load 1 false r129.2.2 t84_174).bind fun t85_175 =>
 (pr.call g id_ip6_big r129.2.2 [t85_175, (LV.int .i64 1)]).bind fun t86_176 =>
 (pr.bin .add t83_173 t86_176).bind fun t87_177 =>
 (pr.fieldAddr 3 3 t1_0).bind fun t88_178 =>
 (pr.slcArr 16 r129.2.2 t88_178 none none).bind fun t89_179 =>
 (pr.b2s r129.2.2 t89_179).bind fun t90_180 =>
 (pr.bin .add t87_177 t90_180).bind fun t91_181 =>
 (pr.fieldAddr 4 19 t1_0).bind fun t92_182 =>
 (pr.slcArr 16 r129.2.2 t92_182 none none).bind fun t93_183 =>
 (pr.b2s r129.2.2 t93_183).bind fun t94_184 =>
 (pr.bin .add t91_181 t94_184).bind fun t95_185 =>
 (pr.bin .add t95_185 (getL r129.2.1 0)).bind fun t97_187 =>
 pr.fin none r129.2.2 [t97_187, LV.nili]) (none))) (
 (pr.fieldAddr 5 35 t1_0).bind fun t41_190 =>
 (pr.load 1 false noSlots t41_190).bind fun t42_191 =>
 (pr.len false t42_191).bind fun t43_192 =>
 (pr.bin .sub t43_192 (LV.int .i64 1)).bind fun t44_193 =>
 (whileW (fun q195 : List LV × Slots =>
 (pr.bin .geq (getL q195.1 2) (LV.int .i64 0)).bind fun t46_197 =>
 condK t46_197 (
 (pr.fieldAddr 5 35 t1_0).bind fun t49_198 =>
 (pr.load 1 false q195.2 t49_198).bind fun t50_199 =>
 (pr.idxAddr none 2 t50_199 (getL q195.1 2)).bind fun t52_201 =>
 (pr.load 2 true q195.2 t52_201).bind fun t53_202 =>
 (pr.alloc (LV.agg [(LV.int .i64 0), (LV.str [])]) 9 q195.2).bind fun t9_203 =>
 (pr.store 2 true t9_203.2 t9_203.1 t53_202).bind fun u204 =>
 (pr.call g id_ip6_big u204.2 [(getL q195.1 1), (LV.int .i64 1)]).bind fun t55_206 =>
 (pr.fieldAddr 1 1 t9_203.1).bind fun t56_207 =>
 (pr.load 1 false u204.2 t56_207).bind fun t57_208 =>
 (pr.len true t57_208).bind fun t58_209 =>
 (pr.bin .quo t58_209 (LV.int .i64 8)).bind fun t59_210 =>
 (pr.call g id_ip6_big u204.2 [t59_210, (LV.int .i64 1)]).bind fun t60_211 =>
 (pr.bin .add t55_206 t60_211).bind fun t61_212 =>
 (pr.fieldAddr 1 1 t9_203.1).bind fun t62_213 =>
 (pr.load 1 false u204.2 t62_213).bind fun t63_214 =>
 (pr.bin .add t61_212 t63_214).bind fun t64_215 =>
 (pr.bin .add t64_215 (getL q195.1 0)).bind fun t66_217 =>
 (pr.fieldAddr 0 0 t9_203.1).bind fun t67_219 =>
 (pr.load 1 false u204.2 t67_219).bind fun t68_220 =>
 (pr.bin .sub (getL q195.1 2) (LV.int .i64 1)).bind fun t48_223 =>
 pr.round noSlots .normal [t66_217, t68_220, t48_223] u204.2) (
 pr.round noSlots (.exit 0) [(getL q195.1 0), (getL q195.1 1), (getL q195.1 2)] q195.2)) ([t19_15, t17_13, t44_193], noSlots)).bind fun r195 =>
 exIf r195.1 (.exit 0) (
 (pr.fieldAddr 0 0 t1_0).bind fun t69_225 =>
 (pr.load 1 false r195.2.2 t69_225).bind fun t70_226 =>
 (pr.bin .shl t70_226 (LV.int .u64 20)).bind fun t71_227 =>
 (pr.bin .or (LV.int .i64 1610612736) t71_227).bind fun t72_228 =>
 (pr.fieldAddr 1 1 t1_0).bind fun t73_229 =>
 (pr.load 1 false r195.2.2 t73_229).bind fun t74_230 =>
 (pr.bin .or t72_228 t74_230).bind fun t75_231 =>
 (pr.call g id_ip6_big r195.2.2 [t75_231, (LV.int .i64 4)]).bind fun t76_232 =>
 (pr.len true (getL r195.2.1 0)).bind fun t78_234 =>
 (pr.call g id_ip6_big r195.2.2 [t78_234, (LV.int .i64 2)]).bind fun t79_235 =>
 (pr.bin .add t76_232 t79_235).bind fun t80_236 =>
 (pr.call g id_ip6_big r195.2.2 [(getL r195.2.1 1), (LV.int .i64 1)]).bind fun t82_238 =>
 (pr.bin .add t80_236 t82_238).bind fun t83_239 =>
 (pr.fieldAddr 2 2 t1_0).bind fun t84_240 =>
 (pr.load 1 false r195.2.2 t84_240).bind fun t85_241 =>
 (pr.call g id_ip6_big r195.2.2 [t85_241, (LV.int .i64 1)]).bind fun t86_242 =>
 (pr.bin .add t83_239 t86_242).bind fun t87_243 =>
 (pr.fieldAddr 3 3 t1_0).bind fun t88_244 =>
 (pr.slcArr 16 r195.2.2 t88_244 none none).bind fun t89_245 =>
 (pr.b2s r195.2.2 t89_245).bind fun t90_246 =>
 (pr.bin .add t87_243 t90_246).bind fun t91_247 =>
 (pr.fieldAddr 4 19 t1_0).bind fun t92_248 =>
 (pr.slcArr 16 r195.2.2 t92_248 none none).bind fun t93_249 =>
 (pr.b2s r195.2.2 t93_249).bind fun t94_250 =>
 (pr.bin .add t91_247 t94_250).bind fun t95_251 =>
 (pr.bin .add t95_251 (getL r195.2.1 0)).bind fun t97_253 =>
 pr.fin none r195.2.2 [t97_253, LV.nili]) (none)))
theorem F_ip6_Bytes_eq (g : Call) (a0 : LV) : fnEv g c_ip6_Bytes [a0] none = F_ip6_Bytes g a0 := by kernel_rfl

/-- interpreter/ip4.Parse -/
noncomputable def F_ip4_Parse (g : Call) (a0 : LV) : Option (LV × Option LV) :=
 (pr.box a0).bind fun t1_0 =>
 (pr.alloc (LV.agg [(LV.int .i64 0), (LV.int .i64 0), (LV.int .i64 0), (LV.int .i64 0), (LV.int .i64 0), (LV.bool false), (LV.bool false), (LV.bytes [0, 0, 0, 0]), (LV.bytes [0, 0, 0, 0]), (LV.str []), (LV.str [])]) 2 noSlots).bind fun t2_1 =>
 (pr.alloc (LV.agg [(LV.int .i64 0), (LV.int .i64 0), (LV.int .i64 0), (LV.int .i64 0), (LV.int .i64 0), (LV.bool false), (LV.bool false), (LV.bytes [0, 0, 0, 0]), (LV.bytes [0, 0, 0, 0]), (LV.str []), (LV.str [])]) 4 t2_1.2).bind fun t4_3 =>
 (pr.load 1 false t4_3.2 t1_0).bind fun t10_4 =>
 (pr.len true t10_4).bind fun t11_5 =>
 (pr.bin .lss t11_5 (LV.int .i64 20)).bind fun t12_6 =>
 condK t12_6 (
 (pr.load 17 true t4_3.2 t4_3.1).bind fun t13_7 =>
 (pr.call g id_ip4_fault t4_3.2 [(LV.int .i64 7)]).bind fun t14_8 =>
 (pr.store 17 true t4_3.2 t2_1.1 t13_7).bind fun u9 =>
 (pr.load 17 true u9.2 t2_1.1).bind fun v11 =>
 pr.fin none u9.2 [v11, t14_8]) (
 (pr.load 1 false t4_3.2 t1_0).bind fun t15_12 =>
 (pr.idxStr t15_12 (LV.int .i64 0)).bind fun t16_13 =>
 (pr.bin .and t16_13 (LV.int .u8 15)).bind fun t17_14 =>
 (pr.conv .i64 t17_14).bind fun t18_15 =>
 (pr.bin .mul t18_15 (LV.int .i64 4)).bind fun t19_16 =>
 (pr.load 1 false t4_3.2 t1_0).bind fun t21_18 =>
 (pr.idxStr t21_18 (LV.int .i64 0)).bind fun t22_19 =>
 (pr.bin .shr t22_19 (LV.int .u64 4)).bind fun t23_20 =>
 (pr.bin .neq t23_20 (LV.int .u8 4)).bind fun t24_21 =>
 (pr.guard t24_21 false).bind fun b23 =>
 (if b23 = true then some t19_16 else some LV.undef).bind fun t26_23 =>
 (pr.guard t24_21 false).bind fun b24 =>
 (if b24 = true then pr.bin .lss t26_23 (LV.int .i64 20) else some LV.undef).bind fun t27_24 =>
 (pr.pick t24_21 (LV.bool true) t27_24).bind fun t28_25 =>
 condK t28_25 (
 (pr.load 17 true t4_3.2 t4_3.1).bind fun t29_27 =>
 (pr.call g id_ip4_fault t4_3.2 [(LV.int .i64 8)]).bind fun t30_28 =>
 (pr.store 17 true t4_3.2 t2_1.1 t29_27).bind fun u29 =>
 (pr.load 17 true u29.2 t2_1.1).bind fun v31 =>
 pr.fin none u29.2 [v31, t30_28]) (
 (pr.load 1 false t4_3.2 t1_0).bind fun t32_32 =>
 (pr.len true t32_32).bind fun t33_33 =>
 (pr.bin .lss t33_33 t19_16).bind fun t35_35 =>
 condK t35_35 (
 (pr.load 17 true t4_3.2 t4_3.1).bind fun t36_37 =>
 (pr.call g id_ip4_fault t4_3.2 [(LV.int .i64 7)]).bind fun t37_38 =>
 (pr.store 17 true t4_3.2 t2_1.1 t36_37).bind fun u39 =>
 (pr.load 17 true u39.2 t2_1.1).bind fun v41 =>
 pr.fin none u39.2 [v41, t37_38]) (
 (pr.load 1 false t4_3.2 t1_0).bind fun t39_42 =>
 (pr.slc 0 t39_42 none (some t19_16)).bind fun t41_44 =>
 (pr.bsl (LV.str []) 1 [(0, t41_44)]).bind fun t42_45 =>
 (pr.call g id_sum_Right t4_3.2 [t42_45]).bind fun t43_46 =>
 (pr.un .not t43_46).bind fun t44_47 =>
 condK t44_47 (
 (pr.load 17 true t4_3.2 t4_3.1).bind fun t45_49 =>
 (pr.call g id_ip4_fault t4_3.2 [(LV.int .i64 9)]).bind fun t46_50 =>
 (pr.store 17 true t4_3.2 t2_1.1 t45_49).bind fun u51 =>
 (pr.load 17 true u51.2 t2_1.1).bind fun v53 =>
 pr.fin none u51.2 [v53, t46_50]) (
 (pr.mkFunc id_ip4_Parse_1 [t1_0]).bind fun t47_54 =>
 (pr.callv g t4_3.2 t47_54 [(LV.int .i64 2)]).bind fun t49_57 =>
 (pr.callv g t4_3.2 t47_54 [(LV.int .i64 6)]).bind fun t51_59 =>
 (pr.bin .lss t49_57 t19_16).bind fun t55_64 =>
 condK t55_64 (
 (pr.load 17 true t4_3.2 t4_3.1).bind fun t56_66 =>
 (pr.call g id_ip4_fault t4_3.2 [(LV.int .i64 8)]).bind fun t57_67 =>
 (pr.store 17 true t4_3.2 t2_1.1 t56_66).bind fun u68 =>
 (pr.load 17 true u68.2 t2_1.1).bind fun v70 =>
 pr.fin none u68.2 [v70, t57_67]) (
 (pr.load 1 false t4_3.2 t1_0).bind fun t59_71 =>
 (pr.len true t59_71).bind fun t60_72 =>
 (pr.bin .lss t60_72 t49_57).bind fun t62_74 =>
 condK t62_74 (
 (pr.load 17 true t4_3.2 t4_3.1).bind fun t63_76 =>
 (pr.call g id_ip4_fault t4_3.2 [(LV.int .i64 7)]).bind fun t64_77 =>
 (pr.store 17 true t4_3.2 t2_1.1 t63_76).bind fun u78 =>
 (pr.load 17 true u78.2 t2_1.1).bind fun v80 =>
 pr.fin none u78.2 [v80, t64_77]) (
 (pr.load 1 false t4_3.2 t1_0).bind fun t65_81 =>
 (pr.idxStr t65_81 (LV.int .i64 1)).bind fun t66_82 =>
 (pr.conv .i64 t66_82).bind fun t67_83 =>
 (pr.callv g t4_3.2 t47_54 [(LV.int .i64 4)]).bind fun t69_85 =>
 (pr.load 1 false t4_3.2 t1_0).bind fun t70_86 =>
 (pr.idxStr t70_86 (LV.int .i64 8)).bind fun t71_87 =>
 (pr.conv .i64 t71_87).bind fun t72_88 =>
 (pr.load 1 false t4_3.2 t1_0).bind fun t73_89 =>
 (pr.idxStr t73_89 (LV.int .i64 9)).bind fun t74_90 =>
 (pr.conv .i64 t74_90).bind fun t75_91 =>
 (pr.bin .and t51_59 (LV.int .i64 8191)).bind fun t77_93 =>
 (pr.bin .mul t77_93 (LV.int .i64 8)).bind fun t78_94 =>
 (pr.bin .and t51_59 (LV.int .i64 16384)).bind fun t80_96 =>
 (pr.bin .neq t80_96 (LV.int .i64 0)).bind fun t81_97 =>
 (pr.bin .and t51_59 (LV.int .i64 8192)).bind fun t83_99 =>
 (pr.bin .neq t83_99 (LV.int .i64 0)).bind fun t84_100 =>
 (pr.load 1 false t4_3.2 t1_0).bind fun t85_101 =>
 (pr.slc 0 t85_101 (some (LV.int .i64 20)) (some t19_16)).bind fun t87_103 =>
 (pr.load 1 false t4_3.2 t1_0).bind fun t88_104 =>
 (pr.slc 0 t88_104 (some t19_16) (some t49_57)).bind fun t91_107 =>
 (pr.parts (LV.agg [(LV.int .i64 0), (LV.int .i64 0), (LV.int .i64 0), (LV.int .i64 0), (LV.int .i64 0), (LV.bool false), (LV.bool false), (LV.bytes [0, 0, 0, 0]), (LV.bytes [0, 0, 0, 0]), (LV.str []), (LV.str [])]) [(0, t67_83), (1, t69_85), (2, t72_88), (3, t75_91), (4, t78_94), (5, t81_97), (6, t84_100), (9, t87_103), (10, t91_107)]).bind fun t92_108 =>
 (pr.alloc (LV.agg [(LV.int .i64 0), (LV.int .i64 0), (LV.int .i64 0), (LV.int .i64 0), (LV.int .i64 0), (LV.bool false), (LV.bool false), (LV.bytes [0, 0, 0, 0]), (LV.bytes [0, 0, 0, 0]), (LV.str []), (LV.str [])]) 9 t4_3.2).bind fun t9_109 =>
 (pr.store 17 true t9_109.2 t9_109.1 t92_108).bind fun u110 =>
 (pr.fieldAddr 7 7 t9_109.1).bind fun t93_111 =>
 (pr.slcArr 4 u110.2 t93_111 none none).bind fun t94_112 =>
 (pr.load 1 false u110.2 t1_0).bind fun t95_113 =>
 (pr.slc 0 t95_113 (some (LV.int .i64 12)) none).bind fun t96_114 =>
 (pr.copy u110.2 t94_112 t96_114).bind fun t97_115 =>
 (pr.fieldAddr 8 11 t9_109.1).bind fun t98_116 =>
 (pr.slcArr 4 t97_115.2 t98_116 none none).bind fun t99_117 =>
 (pr.load 1 false t97_115.2 t1_0).bind fun t100_118 =>
 (pr.slc 0 t100_118 (some (LV.int .i64 16)) none).bind fun t101_119 =>
 (pr.copy t97_115.2 t99_117 t101_119).bind fun t102_120 =>
 (pr.bin .and t51_59 (LV.int .i64 32768)).bind fun t104_122 =>
 (pr.bin .neq t104_122 (LV.int .i64 0)).bind fun t105_123 =>
 (pr.guard t105_123 false).bind fun b125 =>
 (if b125 = true then pr.load 17 true t102_120.2 t9_109.1 else some LV.undef).bind fun t107_125 =>
 (pr.guard t105_123 false).bind fun b126 =>
 (if b126 = true then pr.call g id_ip4_why t102_120.2 [t107_125] else some LV.undef).bind fun t108_126 =>
 (pr.guard t105_123 false).bind fun b127 =>
 (if b127 = true then pr.bin .neq t108_126 (LV.int .i64 0) else some LV.undef).bind fun t109_127 =>
 (pr.pick t105_123 (LV.bool true) t109_127).bind fun t110_128 =>
 condK t110_128 (
 (pr.load 17 true t102_120.2 t4_3.1).bind fun t111_129 =>
 (pr.call g id_ip4_fault t102_120.2 [(LV.int .i64 8)]).bind fun t112_130 =>
 (pr.store 17 true t102_120.2 t2_1.1 t111_129).bind fun u131 =>
 (pr.load 17 true u131.2 t2_1.1).bind fun v133 =>
 pr.fin none u131.2 [v133, t112_130]) (
 (pr.load 17 true t102_120.2 t9_109.1).bind fun t113_134 =>
 (pr.store 17 true t102_120.2 t2_1.1 t113_134).bind fun u135 =>
 (pr.load 17 true u135.2 t2_1.1).bind fun v137 =>
 pr.fin none u135.2 [v137, LV.nili])))))))
theorem F_ip4_Parse_eq (g : Call) (a0 : LV) : fnEv g c_ip4_Parse [a0] none = F_ip4_Parse g a0 := by kernel_rfl

/-- interpreter/ip6.Parse -/
noncomputable def F_ip6_Parse (g : Call) (a0 : LV) : Option (LV × Option LV) :=
 (pr.alloc (LV.agg [(LV.int .i64 0), (LV.int .i64 0), (LV.int .i64 0), (LV.bytes [0, 0, 0, 0, 0, 0, 0, 0, 0, 0, 0, 0, 0, 0, 0, 0]), (LV.bytes [0, 0, 0, 0, 0, 0, 0, 0, 0, 0, 0, 0, 0, 0, 0, 0]), LV.nils, (LV.bool false), (LV.int .u32 0), (LV.int .i64 0), (LV.bool false), (LV.int .i64 0), (LV.str [])]) 2 noSlots).bind fun t2_0 =>
 (pr.alloc (LV.agg [(LV.int .i64 0), (LV.int .i64 0), (LV.int .i64 0), (LV.bytes [0, 0, 0, 0, 0, 0, 0, 0, 0, 0, 0, 0, 0, 0, 0, 0]), (LV.bytes [0, 0, 0, 0, 0, 0, 0, 0, 0, 0, 0, 0, 0, 0, 0, 0]), LV.nils, (LV.bool false), (LV.int .u32 0), (LV.int .i64 0), (LV.bool false), (LV.int .i64 0), (LV.str [])]) 4 t2_0.2).bind fun t4_2 =>
 (pr.len true a0).bind fun t14_4 =>
 (pr.bin .lss t14_4 (LV.int .i64 40)).bind fun t15_5 =>
 condK t15_5 (
 (pr.load 42 true t4_2.2 t4_2.1).bind fun t16_6 =>
 (pr.call g id_ip6_fault t4_2.2 [(LV.int .i64 7)]).bind fun t17_7 =>
 (pr.store 42 true t4_2.2 t2_0.1 t16_6).bind fun u8 =>
 (pr.load 42 true u8.2 t2_0.1).bind fun v10 =>
 pr.fin none u8.2 [v10, t17_7]) (
 (pr.idxStr a0 (LV.int .i64 0)).bind fun t19_12 =>
 (pr.bin .shr t19_12 (LV.int .u64 4)).bind fun t20_13 =>
 (pr.bin .neq t20_13 (LV.int .u8 6)).bind fun t21_14 =>
 condK t21_14 (
 (pr.load 42 true t4_2.2 t4_2.1).bind fun t22_15 =>
 (pr.call g id_ip6_fault t4_2.2 [(LV.int .i64 8)]).bind fun t23_16 =>
 (pr.store 42 true t4_2.2 t2_0.1 t22_15).bind fun u17 =>
 (pr.load 42 true u17.2 t2_0.1).bind fun v19 =>
 pr.fin none u17.2 [v19, t23_16]) (
 (pr.idxStr a0 (LV.int .i64 4)).bind fun t25_21 =>
 (pr.conv .i64 t25_21).bind fun t26_22 =>
 (pr.bin .shl t26_22 (LV.int .u64 8)).bind fun t27_23 =>
 (pr.idxStr a0 (LV.int .i64 5)).bind fun t29_25 =>
 (pr.conv .i64 t29_25).bind fun t30_26 =>
 (pr.bin .or t27_23 t30_26).bind fun t31_27 =>
 (pr.len true a0).bind fun t33_30 =>
 (pr.bin .add (LV.int .i64 40) t31_27).bind fun t35_32 =>
 (pr.bin .lss t33_30 t35_32).bind fun t36_33 =>
 condK t36_33 (
 (pr.load 42 true t4_2.2 t4_2.1).bind fun t37_34 =>
 (pr.call g id_ip6_fault t4_2.2 [(LV.int .i64 7)]).bind fun t38_35 =>
 (pr.store 42 true t4_2.2 t2_0.1 t37_34).bind fun u36 =>
 (pr.load 42 true u36.2 t2_0.1).bind fun v38 =>
 pr.fin none u36.2 [v38, t38_35]) (
 (pr.callFr g id_num_New 41 t4_2.2 [a0]).bind fun t41_40 =>
 (pr.callRw g id_num_Reader_U32 t41_40.2 [t41_40.1]).bind fun t42_41 =>
 (pr.extract t42_41.1 0).bind fun t43_43 =>
 (pr.extract t42_41.1 1).bind fun t44_44 =>
 (pr.bin .shr t43_43 (LV.int .u64 20)).bind fun t46_48 =>
 (pr.bin .and t46_48 (LV.int .i64 255)).bind fun t47_49 =>
 (pr.bin .and t43_43 (LV.int .i64 1048575)).bind fun t49_51 =>
 (pr.idxStr a0 (LV.int .i64 7)).bind fun t51_53 =>
 (pr.conv .i64 t51_53).bind fun t52_54 =>
 (pr.parts (LV.agg [(LV.int .i64 0), (LV.int .i64 0), (LV.int .i64 0), (LV.bytes [0, 0, 0, 0, 0, 0, 0, 0, 0, 0, 0, 0, 0, 0, 0, 0]), (LV.bytes [0, 0, 0, 0, 0, 0, 0, 0, 0, 0, 0, 0, 0, 0, 0, 0]), LV.nils, (LV.bool false), (LV.int .u32 0), (LV.int .i64 0), (LV.bool false), (LV.int .i64 0), (LV.str [])]) [(0, t47_49), (1, t49_51), (2, t52_54)]).bind fun t53_55 =>
 (pr.alloc (LV.agg [(LV.int .i64 0), (LV.int .i64 0), (LV.int .i64 0), (LV.bytes [0, 0, 0, 0, 0, 0, 0, 0, 0, 0, 0, 0, 0, 0, 0, 0]), (LV.bytes [0, 0, 0, 0, 0, 0, 0, 0, 0, 0, 0, 0, 0, 0, 0, 0]), LV.nils, (LV.bool false), (LV.int .u32 0), (LV.int .i64 0), (LV.bool false), (LV.int .i64 0), (LV.str [])]) 8 t42_41.2).bind fun t8_56 =>
 (pr.store 42 true t8_56.2 t8_56.1 t53_55).bind fun u57 =>
 (pr.fieldAddr 3 3 t8_56.1).bind fun t54_58 =>
 (pr.slcArr 16 u57.2 t54_58 none none).bind fun t55_59 =>
 (pr.slc 0 a0 (some (LV.int .i64 8)) none).bind fun t57_61 =>
 (pr.copy u57.2 t55_59 t57_61).bind fun t58_62 =>
 (pr.fieldAddr 4 19 t8_56.1).bind fun t59_63 =>
 (pr.slcArr 16 t58_62.2 t59_63 none none).bind fun t60_64 =>
 (pr.slc 0 a0 (some (LV.int .i64 24)) none).bind fun t62_66 =>
 (pr.copy t58_62.2 t60_64 t62_66).bind fun t63_67 =>
 (pr.idxStr a0 (LV.int .i64 6)).bind fun t66_70 =>
 (pr.conv .i64 t66_70).bind fun t67_71 =>
 (pr.bin .add (LV.int .i64 40) t31_27).bind fun t70_74 =>
 (pr.slc 0 a0 (some (LV.int .i64 40)) (some t70_74)).bind fun t71_75 =>
 (pr.call g id_ip6_Chain t63_67.2 [t67_71, t71_75]).bind fun t72_76 =>
 (pr.extract t72_76 0).bind fun t73_78 =>
 (pr.extract t72_76 1).bind fun t74_79 =>
 (pr.extract t72_76 2).bind fun t75_80 =>
 (pr.extract t72_76 3).bind fun t76_81 =>
 (pr.fieldAddr 5 35 t8_56.1).bind fun t77_82 =>
 (pr.store 1 false t63_67.2 t77_82 t73_78).bind fun u83 =>
 (pr.fieldAddr 10 40 t8_56.1).bind fun t78_84 =>
 (pr.store 1 false u83.2 t78_84 t74_79).bind fun u85 =>
 (pr.fieldAddr 11 41 t8_56.1).bind fun t79_86 =>
 (pr.store 1 false u85.2 t79_86 t75_80).bind fun u87 =>
 (pr.eqNil 1 true t76_81).bind fun t81_90 =>
 condK t81_90 (
 (pr.load 42 true u87.2 t4_2.1).bind fun t82_91 =>
 (pr.store 42 true u87.2 t2_0.1 t82_91).bind fun u93 =>
 (pr.load 42 true u93.2 t2_0.1).bind fun v95 =>
 pr.fin none u93.2 [v95, t76_81]) (
 (pr.fieldAddr 10 40 t8_56.1).bind fun t84_96 =>
 (pr.load 1 false u87.2 t84_96).bind fun t85_97 =>
 (pr.bin .neq t85_97 (LV.int .i64 44)).bind fun t86_98 =>
 condK t86_98 (
 (pr.load 42 true u87.2 t8_56.1).bind fun t87_99 =>
 (pr.store 42 true u87.2 t2_0.1 t87_99).bind fun u100 =>
 (pr.load 42 true u100.2 t2_0.1).bind fun v102 =>
 pr.fin none u100.2 [v102, LV.nili]) (
 (pr.fieldAddr 11 41 t8_56.1).bind fun t88_103 =>
 (pr.load 1 false u87.2 t88_103).bind fun t89_104 =>
 (pr.len true t89_104).bind fun t90_105 =>
 (pr.bin .lss t90_105 (LV.int .i64 8)).bind fun t91_106 =>
 condK t91_106 (
 (pr.load 42 true u87.2 t4_2.1).bind fun t92_107 =>
 (pr.call g id_ip6_fault u87.2 [(LV.int .i64 7)]).bind fun t93_108 =>
 (pr.store 42 true u87.2 t2_0.1 t92_107).bind fun u109 =>
 (pr.load 42 true u109.2 t2_0.1).bind fun v111 =>
 pr.fin none u109.2 [v111, t93_108]) (
 (pr.fieldAddr 11 41 t8_56.1).bind fun t94_112 =>
 (pr.load 1 false u87.2 t94_112).bind fun t95_113 =>
 (pr.idxStr t95_113 (LV.int .i64 2)).bind fun t96_114 =>
 (pr.conv .i64 t96_114).bind fun t97_115 =>
 (pr.bin .shl t97_115 (LV.int .u64 8)).bind fun t98_116 =>
 (pr.fieldAddr 11 41 t8_56.1).bind fun t99_117 =>
 (pr.load 1 false u87.2 t99_117).bind fun t100_118 =>
 (pr.idxStr t100_118 (LV.int .i64 3)).bind fun t101_119 =>
 (pr.conv .i64 t101_119).bind fun t102_120 =>
 (pr.bin .or t98_116 t102_120).bind fun t103_121 =>
 (pr.fieldAddr 11 41 t8_56.1).bind fun t105_123 =>
 (pr.load 1 false u87.2 t105_123).bind fun t106_124 =>
 (pr.slc 0 t106_124 (some (LV.int .i64 4)) none).bind fun t107_125 =>
 (pr.callFr g id_num_New 108 u87.2 [t107_125]).bind fun t108_126 =>
 (pr.callRw g id_num_Reader_U32 t108_126.2 [t108_126.1]).bind fun t109_127 =>
 (pr.extract t109_127.1 0).bind fun t110_129 =>
 (pr.extract t109_127.1 1).bind fun t111_130 =>
 (pr.conv .u32 t110_129).bind fun t113_134 =>
 (pr.bin .andNot t103_121 (LV.int .i64 7)).bind fun t115_136 =>
 (pr.bin .and t103_121 (LV.int .i64 1)).bind fun t117_138 =>
 (pr.bin .neq t117_138 (LV.int .i64 0)).bind fun t118_139 =>
 (pr.fieldAddr 11 41 t8_56.1).bind fun t119_140 =>
 (pr.load 1 false t109_127.2 t119_140).bind fun t120_141 =>
 (pr.idxStr t120_141 (LV.int .i64 0)).bind fun t121_142 =>
 (pr.conv .i64 t121_142).bind fun t122_143 =>
 (pr.fieldAddr 11 41 t8_56.1).bind fun t123_144 =>
 (pr.load 1 false t109_127.2 t123_144).bind fun t124_145 =>
 (pr.slc 0 t124_145 (some (LV.int .i64 8)) none).bind fun t125_146 =>
 (pr.fieldAddr 6 36 t8_56.1).bind fun t126_147 =>
 (pr.store 1 false t109_127.2 t126_147 (LV.bool true)).bind fun u148 =>
 (pr.fieldAddr 7 37 t8_56.1).bind fun t127_149 =>
 (pr.store 1 false u148.2 t127_149 t113_134).bind fun u150 =>
 (pr.fieldAddr 8 38 t8_56.1).bind fun t128_151 =>
 (pr.store 1 false u150.2 t128_151 t115_136).bind fun u152 =>
 (pr.fieldAddr 9 39 t8_56.1).bind fun t129_153 =>
 (pr.store 1 false u152.2 t129_153 t118_139).bind fun u154 =>
 (pr.fieldAddr 10 40 t8_56.1).bind fun t130_155 =>
 (pr.store 1 false u154.2 t130_155 t122_143).bind fun u156 =>
 (pr.fieldAddr 11 41 t8_56.1).bind fun t131_157 =>
 (pr.store 1 false u156.2 t131_157 t125_146).bind fun u158 =>
 (pr.load 42 true u158.2 t8_56.1).bind fun t132_159 =>
 (pr.call g id_ip6_pieced u158.2 [t132_159]).bind fun t133_160 =>
 (pr.un .not t133_160).bind fun t134_161 =>
 (pr.guard t134_161 false).bind fun b163 =>
 (if b163 = true then pr.fieldAddr 11 41 t8_56.1 else some LV.undef).bind fun t136_163 =>
 (pr.guard t134_161 false).bind fun b164 =>
 (if b164 = true then pr.load 1 false u158.2 t136_163 else some LV.undef).bind fun t137_164 =>
 (pr.guard t134_161 false).bind fun b165 =>
 (if b165 = true then pr.len true t137_164 else some LV.undef).bind fun t138_165 =>
 (pr.guard t134_161 false).bind fun b166 =>
 (if b166 = true then pr.fieldAddr 8 38 t8_56.1 else some LV.undef).bind fun t139_166 =>
 (pr.guard t134_161 false).bind fun b167 =>
 (if b167 = true then pr.load 1 false u158.2 t139_166 else some LV.undef).bind fun t140_167 =>
 (pr.guard t134_161 false).bind fun b168 =>
 (if b168 = true then pr.bin .sub (LV.int .i64 65535) t140_167 else some LV.undef).bind fun t141_168 =>
 (pr.guard t134_161 false).bind fun b169 =>
 (if b169 = true then pr.bin .gtr t138_165 t141_168 else some LV.undef).bind fun t142_169 =>
 (pr.pick t134_161 (LV.bool true) t142_169).bind fun t143_170 =>
 condK t143_170 (
 (pr.load 42 true u158.2 t4_2.1).bind fun t144_171 =>
 (pr.call g id_ip6_fault u158.2 [(LV.int .i64 8)]).bind fun t145_172 =>
 (pr.store 42 true u158.2 t2_0.1 t144_171).bind fun u173 =>
 (pr.load 42 true u173.2 t2_0.1).bind fun v175 =>
 pr.fin none u173.2 [v175, t145_172]) (
 (pr.load 42 true u158.2 t8_56.1).bind fun t146_176 =>
 (pr.store 42 true u158.2 t2_0.1 t146_176).bind fun u177 =>
 (pr.load 42 true u177.2 t2_0.1).bind fun v179 =>
 pr.fin none u177.2 [v179, LV.nili])))))))
theorem F_ip6_Parse_eq (g : Call) (a0 : LV) : fnEv g c_ip6_Parse [a0] none = F_ip6_Parse g a0 := by kernel_rfl

/-- interpreter/ip4.Bytes -/
noncomputable def F_ip4_Bytes (g : Call) (a0 : LV) : Option (LV × Option LV) :=
 (pr.box a0).bind fun t1_0 =>
 (pr.load 17 true noSlots t1_0).bind fun t9_3 =>
 (pr.call g id_ip4_why noSlots [t9_3]).bind fun t10_4 =>
 (pr.bin .neq t10_4 (LV.int .i64 0)).bind fun t12_7 =>
 condK t12_7 (
 (pr.call g id_ip4_fault noSlots [t10_4]).bind fun t14_9 =>
 pr.fin none noSlots [(LV.str []), t14_9]) (
 (pr.fieldAddr 4 4 t1_0).bind fun t15_12 =>
 (pr.load 1 false noSlots t15_12).bind fun t16_13 =>
 (pr.bin .quo t16_13 (LV.int .i64 8)).bind fun t17_14 =>
 (pr.fieldAddr 5 5 t1_0).bind fun t18_16 =>
 (pr.load 1 false noSlots t18_16).bind fun t19_17 =>
 condK t19_17 (
 (pr.bin .or t17_14 (LV.int .i64 16384)).bind fun t21_19 =>
 (pr.fieldAddr 6 6 t1_0).bind fun t22_21 =>
 (pr.load 1 false noSlots t22_21).bind fun t23_22 =>
 condK t23_22 (
 (pr.bin .or t21_19 (LV.int .i64 8192)).bind fun t25_24 =>
 (pr.fieldAddr 9 15 t1_0).bind fun t26_26 =>
 (pr.load 1 false noSlots t26_26).bind fun t27_27 =>
 (pr.len true t27_27).bind fun t28_28 =>
 (pr.bin .add (LV.int .i64 20) t28_28).bind fun t29_29 =>
 (pr.bin .quo t29_29 (LV.int .i64 4)).bind fun t31_32 =>
 (pr.bin .add (LV.int .i64 64) t31_32).bind fun t32_33 =>
 (pr.call g id_ip4_big noSlots [t32_33, (LV.int .i64 1)]).bind fun t33_34 =>
 (pr.fieldAddr 0 0 t1_0).bind fun t34_35 =>
 (pr.load 1 false noSlots t34_35).bind fun t35_36 =>
 (pr.call g id_ip4_big noSlots [t35_36, (LV.int .i64 1)]).bind fun t36_37 =>
 (pr.bin .add t33_34 t36_37).bind fun t37_38 =>
 (pr.fieldAddr 10 16 t1_0).bind fun t39_40 =>
 (pr.load 1 false noSlots t39_40).bind fun t40_41 =>
 (pr.len true t40_41).bind fun t41_42 =>
 (pr.bin .add t29_29 t41_42).bind fun t42_43 =>
 (pr.call g id_ip4_big noSlots [t42_43, (LV.int .i64 2)]).bind fun t43_44 =>
 (pr.bin .add t37_38 t43_44).bind fun t44_45 =>
 (pr.fieldAddr 1 1 t1_0).bind fun t45_46 =>
 (pr.load 1 false noSlots t45_46).bind fun t46_47 =>
 (pr.call g id_ip4_big noSlots [t46_47, (LV.int .i64 2)]).bind fun t47_48 =>
 (pr.bin .add t44_45 t47_48).bind fun t48_49 =>
 (pr.call g id_ip4_big noSlots [t25_24, (LV.int .i64 2)]).bind fun t50_51 =>
 (pr.bin .add t48_49 t50_51).bind fun t51_52 =>
 (pr.fieldAddr 2 2 t1_0).bind fun t52_53 =>
 (pr.load 1 false noSlots t52_53).bind fun t53_54 =>
 (pr.call g id_ip4_big noSlots [t53_54, (LV.int .i64 1)]).bind fun t54_55 =>
 (pr.bin .add t51_52 t54_55).bind fun t55_56 =>
 (pr.fieldAddr 3 3 t1_0).bind fun t56_57 =>
 (pr.load 1 false noSlots t56_57).bind fun t57_58 =>
 (pr.call g id_ip4_big noSlots [t57_58, (LV.int .i64 1)]).bind fun t58_59 =>
 (pr.bin .add t55_56 t58_59).bind fun t59_60 =>
 (pr.fieldAddr 7 7 t1_0).bind fun t60_62 =>
 (pr.slcArr 4 noSlots t60_62 none none).bind fun t61_63 =>
 (pr.b2s noSlots t61_63).bind fun t62_64 =>
 (pr.fieldAddr 8 11 t1_0).bind fun t63_65 =>
 (pr.slcArr 4 noSlots t63_65 none none).bind fun t64_66 =>
 (pr.b2s noSlots t64_66).bind fun t65_67 =>
 (pr.bin .add t62_64 t65_67).bind fun t66_68 =>
 (pr.fieldAddr 9 15 t1_0).bind fun t67_69 =>
 (pr.load 1 false noSlots t67_69).bind fun t68_70 =>
 (pr.bin .add t66_68 t68_70).bind fun t69_71 =>
 (pr.bsl (LV.str []) 2 [(0, t59_60), (1, t69_71)]).bind fun t73_76 =>
 (pr.call g id_sum_Of noSlots [t73_76]).bind fun t74_77 =>
 (pr.call g id_ip4_big noSlots [t74_77, (LV.int .i64 2)]).bind fun t75_78 =>
 (pr.bin .add t59_60 t75_78).bind fun t76_79 =>
 (pr.bin .add t76_79 t69_71).bind fun t78_81 =>
 (pr.fieldAddr 10 16 t1_0).bind fun t79_82 =>
 (pr.load 1 false noSlots t79_82).bind fun t80_83 =>
 (pr.bin .add t78_81 t80_83).bind fun t81_84 =>
 pr.fin none noSlots [t81_84, LV.nili]) (
 (pr.fieldAddr 9 15 t1_0).bind fun t26_87 =>
 (pr.load 1 false noSlots t26_87).bind fun t27_88 =>
 (pr.len true t27_88).bind fun t28_89 =>
 (pr.bin .add (LV.int .i64 20) t28_89).bind fun t29_90 =>
 (pr.bin .quo t29_90 (LV.int .i64 4)).bind fun t31_93 =>
 (pr.bin .add (LV.int .i64 64) t31_93).bind fun t32_94 =>
 (pr.call g id_ip4_big noSlots [t32_94, (LV.int .i64 1)]).bind fun t33_95 =>
 (pr.fieldAddr 0 0 t1_0).bind fun t34_96 =>
 (pr.load 1 false noSlots t34_96).bind fun t35_97 =>
 (pr.call g id_ip4_big noSlots [t35_97, (LV.int .i64 1)]).bind fun t36_98 =>
 (pr.bin .add t33_95 t36_98).bind fun t37_99 =>
 (pr.fieldAddr 10 16 t1_0).bind fun t39_101 =>
 (pr.load 1 false noSlots t39_101).bind fun t40_102 =>
 (pr.len true t40_102).bind fun t41_103 =>
 (pr.bin .add t29_90 t41_103).bind fun t42_104 =>
 (pr.call g id_ip4_big noSlots [t42_104, (LV.int .i64 2)]).bind fun t43_105 =>
 (pr.bin .add t37_99 t43_105).bind fun t44_106 =>
 (pr.fieldAddr 1 1 t1_0).bind fun t45_107 =>
 (pr.load 1 false noSlots t45_107).bind fun t46_108 =>
 (pr.call g id_ip4_big noSlots [t46_108, (LV.int .i64 2)]).bind fun t47_109 =>
 (pr.bin .add t44_106 t47_109).bind fun t48_110 =>
 (pr.call g id_ip4_big noSlots [t21_19, (LV.int .i64 2)]).bind fun t50_112 =>
 (pr.bin .add t48_110 t50_112).bind fun t51_113 =>
 (pr.fieldAddr 2 2 t1_0).bind fun t52_114 =>
 (pr.load 1 false noSlots t52_114).bind fun t53_115 =>
 (pr.call g id_ip4_big noSlots [t53_115, (LV.int .i64 1)]).bind fun t54_116 =>
 (pr.bin .add t51_113 t54_116).bind fun t55_117 =>
 (pr.fieldAddr 3 3 t1_0).bind fun t56_118 =>
 (pr.load 1 false noSlots t56_118).bind fun t57_119 =>
 (pr.call g id_ip4_big noSlots [t57_119, (LV.int .i64 1)]).bind fun t58_120 =>
 (pr.bin .add t55_117 t58_120).bind fun t59_121 =>
 (pr.fieldAddr 7 7 t1_0).bind fun t60_123 =>
 (pr.slcArr 4 noSlots t60_123 none none).bind fun t61_124 =>
 (pr.b2s noSlots t61_124).bind fun t62_125 =>
 (pr.fieldAddr 8 11 t1_0).bind fun t63_126 =>
 (pr.slcArr 4 noSlots t63_126 none none).bind fun t64_127 =>
 (pr.b2s noSlots t64_127).bind fun t65_128 =>
 (pr.bin .add t62_125 t65_128).bind fun t66_129 =>
 (pr.fieldAddr 9 15 t1_0).bind fun t67_130 =>
 (pr.load 1 false noSlots t67_130).bind fun t68_131 =>
 (pr.bin .add t66_129 t68_131).bind fun t69_132 =>
 (pr.bsl (LV.str []) 2 [(0, t59_121), (1, t69_132)]).bind fun t73_137 =>
 (pr.call g id_sum_Of noSlots [t73_137]).bind fun t74_138 =>
 (pr.call g id_ip4_big noSlots [t74_138, (LV.int .i64 2)]).bind fun t75_139 =>
 (pr.bin .add t59_121 t75_139).bind fun t76_140 =>
 (pr.bin .add t76_140 t69_132).bind fun t78_142 =>
 (pr.fieldAddr 10 16 t1_0).bind fun t79_143 =>
 (pr.load 1 false noSlots t79_143).bind fun t80_144 =>
 (pr.bin .add t78_142 t80_144).bind fun t81_145 =>
 pr.fin none noSlots [t81_145, LV.nili])) (
 (pr.fieldAddr 6 6 t1_0).bind fun t22_148 =>
 (pr.load 1 false noSlots t22_148).bind fun t23_149 =>
 condK t23_149 (
 (pr.bin .or t17_14 (LV.int .i64 8192)).bind fun t25_151 =>
 (pr.fieldAddr 9 15 t1_0).bind fun t26_153 =>
 (pr.load 1 false noSlots t26_153).bind fun t27_154 =>
 (pr.len true t27_154).bind fun t28_155 =>
 (pr.bin .add (LV.int .i64 20) t28_155).bind fun t29_156 =>
 (pr.bin .quo t29_156 (LV.int .i64 4)).bind fun t31_159 =>
 (pr.bin .add (LV.int .i64 64) t31_159).bind fun t32_160 =>
 (pr.call g id_ip4_big noSlots [t32_160, (LV.int .i64 1)]).bind fun t33_161 =>
 (pr.fieldAddr 0 0 t1_0).bind fun t34_162 =>
 (pr.load 1 false noSlots t34_162).bind fun t35_163 =>
 (pr.call g id_ip4_big noSlots [t35_163, (LV.int .i64 1)]).bind fun t36_164 =>
 (pr.bin .add t33_161 t36_164).bind fun t37_165 =>
 (pr.fieldAddr 10 16 t1_0).bind fun t39_167 =>
 (pr.load 1 false noSlots t39_167).bind fun t40_168 =>
 (pr.len true t40_168).bind fun t41_169 =>
 (pr.bin .add t29_156 t41_169).bind fun t42_170 =>
 (pr.call g id_ip4_big noSlots [t42_170, (LV.int .i64 2)]).bind fun t43_171 =>
 (pr.bin .add t37_165 t43_171).bind fun t44_172 =>
 (pr.fieldAddr 1 1 t1_0).bind fun t45_173 =>
 (pr.load 1 false noSlots t45_173).bind fun t46_174 =>
 (pr.call g id_ip4_big noSlots [t46_174, (LV.int .i64 2)]).bind fun t47_175 =>
 (pr.bin .add t44_172 t47_175).bind fun t48_176 =>
 (pr.call g id_ip4_big noSlots [t25_151, (LV.int .i64 2)]).bind fun t50_178 =>
 (pr.bin .add t48_176 t50_178).bind fun t51_179 =>
 (pr.fieldAddr 2 2 t1_0).bind fun t52_180 =>
 (pr.load 1 false noSlots t52_180).bind fun t53_181 =>
 (pr.call g id_ip4_big noSlots [t53_181, (LV.int .i64 1)]).bind fun t54_182 =>
 (pr.bin .add t51_179 t54_182).bind fun t55_183 =>
 (pr.fieldAddr 3 3 t1_0).bind fun t56_184 =>
 (pr.load 1 false noSlots t56_184).bind fun t57_185 =>
 (pr.call g id_ip4_big noSlots [t57_185, (LV.int .i64 1)]).bind fun t58_186 =>
 (pr.bin .add t55_183 t58_186).bind fun t59_187 =>
 (pr.fieldAddr 7 7 t1_0).bind fun t60_189 =>
 (pr.slcArr 4 noSlots t60_189 none none).bind fun t61_190 =>
 (pr.b2s noSlots t61_190).bind fun t62_191 =>
 (pr.fieldAddr 8 11 t1_0).bind fun t63_192 =>
 (pr.slcArr 4 noSlots t63_192 none none).bind fun t64_193 =>
 (pr.b2s noSlots t64_193).bind fun t65_194 =>
 (pr.bin .add t62_191 t65_194).bind fun t66_195 =>
 (pr.fieldAddr 9 15 t1_0).bind fun t67_196 =>
 (pr.load 1 false noSlots t67_196).bind fun t68_197 =>
 (pr.bin .add t66_195 t68_197).bind fun t69_198 =>
 (pr.bsl (LV.str []) 2 [(0, t59_187), (1, t69_198)]).bind fun t73_203 =>
 (pr.call g id_sum_Of noSlots [t73_203]).bind fun t74_204 =>
 (pr.call g id_ip4_big noSlots [t74_204, (LV.int .i64 2)]).bind fun t75_205 =>
 (pr.bin .add t59_187 t75_205).bind fun t76_206 =>
 (pr.bin .add t76_206 t69_198).bind fun t78_208 =>
 (pr.fieldAddr 10 16 t1_0).bind fun t79_209 =>
 (pr.load 1 false noSlots t79_209).bind fun t80_210 =>
 (pr.bin .add t78_208 t80_210).bind fun t81_211 =>
 pr.fin none noSlots [t81_211, LV.nili]) (
 (pr.fieldAddr 9 15 t1_0).bind fun t26_214 =>
 (pr.load 1 false noSlots t26_214).bind fun t27_215 =>
 (pr.len true t27_215).bind fun t28_216 =>
 (pr.bin .add (LV.int .i64 20) t28_216).bind fun t29_217 =>
 (pr.bin .quo t29_217 (LV.int .i64 4)).bind fun t31_220 =>
 (pr.bin .add (LV.int .i64 64) t31_220).bind fun t32_221 =>
 (pr.call g id_ip4_big noSlots [t32_221, (LV.int .i64 1)]).bind fun t33_222 =>
 (pr.fieldAddr 0 0 t1_0).bind fun t34_223 =>
 (pr.load 1 false noSlots t34_223).bind fun t35_224 =>
 (pr.call g id_ip4_big noSlots [t35_224, (LV.int .i64 1)]).bind fun t36_225 =>
 (pr.bin .add t33_222 t36_225).bind fun t37_226 =>
 (pr.fieldAddr 10 16 t1_0).bind fun t39_228 =>
 (pr.load 1 false noSlots t39_228).bind fun t40_229 =>
 (pr.len true t40_229).bind fun t41_230 =>
 (pr.bin .add t29_217 t41_230).bind fun t42_231 =>
 (pr.call g id_ip4_big noSlots [t42_231, (LV.int .i64 2)]).bind fun t43_232 =>
 (pr.bin .add t37_226 t43_232).bind fun t44_233 =>
 (pr.fieldAddr 1 1 t1_0).bind fun t45_234 =>
 (pr.load 1 false noSlots t45_234).bind fun t46_235 =>
 (pr.call g id_ip4_big noSlots [t46_235, (LV.int .i64 2)]).bind fun t47_236 =>
 (pr.bin .add t44_233 t47_236).bind fun t48_237 =>
 (pr.call g id_ip4_big noSlots [t17_14, (LV.int .i64 2)]).bind fun t50_239 =>
 (pr.bin .add t48_237 t50_239).bind fun t51_240 =>
 (pr.fieldAddr 2 2 t1_0).bind fun t52_241 =>
 (pr.load 1 false noSlots t52_241).bind fun t53_242 =>
 (pr.call g id_ip4_big noSlots [t53_242, (LV.int .i64 1)]).bind fun t54_243 =>
 (pr.bin .add t51_240 t54_243).bind fun t55_244 =>
 (pr.fieldAddr 3 3 t1_0).bind fun t56_245 =>
 (pr.load 1 false noSlots t56_245).bind fun t57_246 =>
 (pr.call g id_ip4_big noSlots [t57_246, (LV.int .i64 1)]).bind fun t58_247 =>
 (pr.bin .add t55_244 t58_247).bind fun t59_248 =>
 (pr.fieldAddr 7 7 t1_0).bind fun t60_250 =>
 (pr.slcArr 4 noSlots t60_250 none none).bind fun t61_251 =>
 (pr.b2s noSlots t61_251).bind fun t62_252 =>
 (pr.fieldAddr 8 11 t1_0).bind fun t63_253 =>
 (pr.slcArr 4 noSlots t63_253 none none).bind fun t64_254 =>
 (pr.b2s noSlots t64_254).bind fun t65_255 =>
 (pr.bin .add t62_252 t65_255).bind fun t66_256 =>
 (pr.fieldAddr 9 15 t1_0).bind fun t67_257 =>
 (pr.load 1 false noSlots t67_257).bind fun t68_258 =>
 (pr.bin .add t66_256 t68_258).bind fun t69_259 =>
 (pr.bsl (LV.str []) 2 [(0, t59_248), (1, t69_259)]).bind fun t73_264 =>
 (pr.call g id_sum_Of noSlots [t73_264]).bind fun t74_265 =>
 (pr.call g id_ip4_big noSlots [t74_265, (LV.int .i64 2)]).bind fun t75_266 =>
 (pr.bin .add t59_248 t75_266).bind fun t76_267 =>
 (pr.bin .add t76_267 t69_259).bind fun t78_269 =>
 (pr.fieldAddr 10 16 t1_0).bind fun t79_270 =>
 (pr.load 1 false noSlots t79_270).bind fun t80_271 =>
 (pr.bin .add t78_269 t80_271).bind fun t81_272 =>
 pr.fin none noSlots [t81_272, LV.nili])))
theorem F_ip4_Bytes_eq (g : Call) (a0 : LV) : fnEv g c_ip4_Bytes [a0] none = F_ip4_Bytes g a0 := by kernel_rfl

/-- interpreter/head64.why -/
noncomputable def F_head64_why (g : Call) (a0 : LV) (a1 : LV) : Option (LV × Option LV) :=
 (pr.box a0).bind fun t2_0 =>
 (pr.fieldAddr 10 40 t2_0).bind fun t8_2 =>
 (pr.load 1 false noSlots t8_2).bind fun t9_3 =>
 (pr.call g id_head64_Proto noSlots [t9_3]).bind fun t10_4 =>
 (pr.extract t10_4 0).bind fun t11_6 =>
 (pr.extract t10_4 1).bind fun t12_7 =>
 (pr.fieldAddr 2 2 t2_0).bind fun t14_10 =>
 (pr.load 1 false noSlots t14_10).bind fun t15_11 =>
 (pr.bin .lss t15_11 (LV.int .i64 2)).bind fun t16_12 =>
 (pr.guard t16_12 false).bind fun b14 =>
 (if b14 = true then pr.fieldAddr 2 2 t2_0 else some LV.undef).bind fun t18_14 =>
 (pr.guard t16_12 false).bind fun b15 =>
 (if b15 = true then pr.load 1 false noSlots t18_14 else some LV.undef).bind fun t19_15 =>
 (pr.guard t16_12 false).bind fun b16 =>
 (if b16 = true then pr.bin .gtr t19_15 (LV.int .i64 255) else some LV.undef).bind fun t20_16 =>
 (pr.pick t16_12 (LV.bool true) t20_16).bind fun t21_17 =>
 (pr.guard t21_17 false).bind fun b19 =>
 (if b19 = true then pr.fieldAddr 0 0 t2_0 else some LV.undef).bind fun t23_19 =>
 (pr.guard t21_17 false).bind fun b20 =>
 (if b20 = true then pr.load 1 false noSlots t23_19 else some LV.undef).bind fun t24_20 =>
 (pr.guard t21_17 false).bind fun b21 =>
 (if b21 = true then pr.bin .lss t24_20 (LV.int .i64 0) else some LV.undef).bind fun t25_21 =>
 (pr.pick t21_17 (LV.bool true) t25_21).bind fun t26_22 =>
 (pr.guard t26_22 false).bind fun b24 =>
 (if b24 = true then pr.fieldAddr 0 0 t2_0 else some LV.undef).bind fun t28_24 =>
 (pr.guard t26_22 false).bind fun b25 =>
 (if b25 = true then pr.load 1 false noSlots t28_24 else some LV.undef).bind fun t29_25 =>
 (pr.guard t26_22 false).bind fun b26 =>
 (if b26 = true then pr.bin .gtr t29_25 (LV.int .i64 255) else some LV.undef).bind fun t30_26 =>
 (pr.pick t26_22 (LV.bool true) t30_26).bind fun t31_27 =>
 (pr.guard t31_27 false).bind fun b29 =>
 (if b29 = true then some a1 else some LV.undef).bind fun t33_29 =>
 (pr.guard t31_27 false).bind fun b30 =>
 (if b30 = true then pr.bin .lss t33_29 (LV.int .i64 0) else some LV.undef).bind fun t34_30 =>
 (pr.pick t31_27 (LV.bool true) t34_30).bind fun t35_31 =>
 (pr.guard t35_31 false).bind fun b33 =>
 (if b33 = true then some a1 else some LV.undef).bind fun t37_33 =>
 (pr.guard t35_31 false).bind fun b34 =>
 (if b34 = true then pr.bin .gtr t37_33 (LV.int .i64 65535) else some LV.undef).bind fun t38_34 =>
 (pr.pick t35_31 (LV.bool true) t38_34).bind fun t39_35 =>
 condK t39_35 (
 pr.fin none noSlots [(LV.int .i64 13)]) (
 (pr.fieldAddr 5 35 t2_0).bind fun t41_38 =>
 (pr.load 1 false noSlots t41_38).bind fun t42_39 =>
 (pr.call g id_ip6_Routed noSlots [t42_39]).bind fun t43_40 =>
 (pr.guard t43_40 false).bind fun b42 =>
 (if b42 = true then some t12_7 else some LV.undef).bind fun t45_42 =>
 (pr.guard t43_40 false).bind fun b43 =>
 (if b43 = true then pr.un .not t45_42 else some LV.undef).bind fun t46_43 =>
 (pr.pick t43_40 (LV.bool true) t46_43).bind fun t47_44 =>
 condK t47_44 (
 pr.fin none noSlots [(LV.int .i64 10)]) (
 (pr.fieldAddr 8 38 t2_0).bind fun t49_47 =>
 (pr.load 1 false noSlots t49_47).bind fun t50_48 =>
 (pr.fieldAddr 11 41 t2_0).bind fun t51_49 =>
 (pr.load 1 false noSlots t51_49).bind fun t52_50 =>
 (pr.len true t52_50).bind fun t53_51 =>
 (pr.bin .sub (LV.int .i64 65515) t53_51).bind fun t54_52 =>
 (pr.bin .gtr t50_48 t54_52).bind fun t55_53 =>
 condK t55_53 (
 pr.fin none noSlots [(LV.int .i64 3)]) (
 pr.fin none noSlots [(LV.int .i64 0)])))
theorem F_head64_why_eq (g : Call) (a0 : LV) (a1 : LV) : fnEv g c_head64_why [a0, a1] none = F_head64_why g a0 a1 := by kernel_rfl

/-- interpreter/head64.fault -/
noncomputable def F_head64_fault (g : Call) (a0 : LV) : Option (LV × Option LV) :=
 (pr.parts (LV.agg [(LV.int .i64 0), (LV.int .i64 0)]) [(0, a0)]).bind fun t4_2 =>
 (pr.box t4_2).bind fun t5_3 =>
 (pr.iface ty_ptr_num_Fault t5_3).bind fun t6_4 =>
 pr.fin none noSlots [t6_4]
theorem F_head64_fault_eq (g : Call) (a0 : LV) : fnEv g c_head64_fault [a0] none = F_head64_fault g a0 := by kernel_rfl

/-- interpreter/interpreterref04.Routed -/
noncomputable def F_interpreterref04_Routed (g : Call) (a0 : LV) : Option (LV × Option LV) :=
 (whileW (fun q2 : List LV × Slots =>
 (pr.len false a0).bind fun t6_5 =>
 (pr.bin .lss (getL q2.1 1) t6_5).bind fun t7_6 =>
 condK t7_6 (
 (pr.idxAddr none 2 a0 (getL q2.1 1)).bind fun t12_9 =>
 (pr.fieldAddr 0 0 t12_9).bind fun t13_10 =>
 (pr.load 1 false q2.2 t13_10).bind fun t14_11 =>
 (pr.bin .eql t14_11 (LV.int .i64 43)).bind fun t15_12 =>
 (pr.guard t15_12 true).bind fun b14 =>
 (if b14 = true then some a0 else some LV.undef).bind fun t17_14 =>
 (pr.guard t15_12 true).bind fun b15 =>
 (if b15 = true then some (getL q2.1 1) else some LV.undef).bind fun t18_15 =>
 (pr.guard t15_12 true).bind fun b16 =>
 (if b16 = true then pr.idxAddr none 2 t17_14 t18_15 else some LV.undef).bind fun t19_16 =>
 (pr.guard t15_12 true).bind fun b17 =>
 (if b17 = true then pr.fieldAddr 1 1 t19_16 else some LV.undef).bind fun t20_17 =>
 (pr.guard t15_12 true).bind fun b18 =>
 (if b18 = true then pr.load 1 false q2.2 t20_17 else some LV.undef).bind fun t21_18 =>
 (pr.guard t15_12 true).bind fun b19 =>
 (if b19 = true then pr.len true t21_18 else some LV.undef).bind fun t22_19 =>
 (pr.guard t15_12 true).bind fun b20 =>
 (if b20 = true then pr.bin .geq t22_19 (LV.int .i64 2) else some LV.undef).bind fun t23_20 =>
 (pr.pick t15_12 t23_20 (LV.bool false)).bind fun t24_21 =>
 (pr.guard t24_21 true).bind fun b23 =>
 (if b23 = true then some a0 else some LV.undef).bind fun t26_23 =>
 (pr.guard t24_21 true).bind fun b24 =>
 (if b24 = true then some (getL q2.1 1) else some LV.undef).bind fun t27_24 =>
 (pr.guard t24_21 true).bind fun b25 =>
 (if b25 = true then pr.idxAddr none 2 t26_23 t27_24 else some LV.undef).bind fun t28_25 =>
 (pr.guard t24_21 true).bind fun b26 =>
 (if b26 = true then pr.fieldAddr 1 1 t28_25 else some LV.undef).bind fun t29_26 =>
 (pr.guard t24_21 true).bind fun b27 =>
 (if b27 = true then pr.load 1 false q2.2 t29_26 else some LV.undef).bind fun t30_27 =>
 (pr.guard t24_21 true).bind fun b28 =>
 (if b28 = true then pr.idxStr t30_27 (LV.int .i64 1) else some LV.undef).bind fun t31_28 =>
 (pr.guard t24_21 true).bind fun b29 =>
 (if b29 = true then pr.bin .neq t31_28 (LV.int .u8 0) else some LV.undef).bind fun t32_29 =>
 (pr.pick t24_21 t32_29 (LV.bool false)).bind fun t33_30 =>
 condK t33_30 (
 pr.round noSlots .ret [(LV.bool true), (getL q2.1 1)] q2.2) (
 (pr.bin .add (getL q2.1 1) (LV.int .i64 1)).bind fun t9_33 =>
 pr.round noSlots .normal [(getL q2.1 0), t9_33] q2.2)) (
 pr.round noSlots (.exit 0) [(getL q2.1 0), (getL q2.1 1)] q2.2)) ([(LV.bool false), (LV.int .i64 0)], noSlots)).bind fun r2 =>
 exIf r2.1 (.exit 0) (
 pr.fin none r2.2.2 [(LV.bool false)]) (exIf r2.1 .ret (
 pr.fin none r2.2.2 [(getL r2.2.1 0)]) (none))
theorem F_interpreterref04_Routed_eq (g : Call) (a0 : LV) : fnEv g c_interpreterref04_Routed [a0] none = F_interpreterref04_Routed g a0 := by kernel_rfl

/-- interpreter/head46.fault -/
noncomputable def F_head46_fault (g : Call) (a0 : LV) : Option (LV × Option LV) :=
 (pr.parts (LV.agg [(LV.int .i64 0), (LV.int .i64 0)]) [(0, a0)]).bind fun t4_2 =>
 (pr.box t4_2).bind fun t5_3 =>
 (pr.iface ty_ptr_num_Fault t5_3).bind fun t6_4 =>
 pr.fin none noSlots [t6_4]
theorem F_head46_fault_eq (g : Call) (a0 : LV) : fnEv g c_head46_fault [a0] none = F_head46_fault g a0 := by kernel_rfl

/-- interpreter/ip4.Routed -/
noncomputable def F_ip4_Routed (g : Call) (a0 : LV) : Option (LV × Option LV) :=
 (whileW (fun q3 : List LV × Slots =>
 (pr.bin .neq (getL q3.1 0) (LV.str [])).bind fun t6_5 =>
 (pr.guard t6_5 true).bind fun b7 =>
 (if b7 = true then some (getL q3.1 0) else some LV.undef).bind fun t8_7 =>
 (pr.guard t6_5 true).bind fun b8 =>
 (if b8 = true then pr.idxStr t8_7 (LV.int .i64 0) else some LV.undef).bind fun t9_8 =>
 (pr.guard t6_5 true).bind fun b9 =>
 (if b9 = true then pr.bin .neq t9_8 (LV.int .u8 0) else some LV.undef).bind fun t10_9 =>
 (pr.pick t6_5 t10_9 (LV.bool false)).bind fun t11_10 =>
 condK t11_10 (
 (pr.idxStr (getL q3.1 0) (LV.int .i64 0)).bind fun t13_12 =>
 (pr.bin .eql t13_12 (LV.int .u8 1)).bind fun t14_13 =>
 condK t14_13 (
 (pr.slc 0 (getL q3.1 0) (some (LV.int .i64 1)) none).bind fun t16_15 =>
 pr.round noSlots .normal [t16_15, (getL q3.1 1), (getL q3.1 2), (getL q3.1 3)] q3.2) (
 (pr.len true (getL q3.1 0)).bind fun t18_18 =>
 (pr.bin .lss t18_18 (LV.int .i64 2)).bind fun t19_19 =>
 (pr.guard t19_19 false).bind fun b21 =>
 (if b21 = true then some (getL q3.1 0) else some LV.undef).bind fun t21_21 =>
 (pr.guard t19_19 false).bind fun b22 =>
 (if b22 = true then pr.idxStr t21_21 (LV.int .i64 1) else some LV.undef).bind fun t22_22 =>
 (pr.guard t19_19 false).bind fun b23 =>
 (if b23 = true then pr.bin .lss t22_22 (LV.int .u8 2) else some LV.undef).bind fun t23_23 =>
 (pr.pick t19_19 (LV.bool true) t23_23).bind fun t24_24 =>
 (pr.guard t24_24 false).bind fun b26 =>
 (if b26 = true then some (getL q3.1 0) else some LV.undef).bind fun t26_26 =>
 (pr.guard t24_24 false).bind fun b27 =>
 (if b27 = true then pr.idxStr t26_26 (LV.int .i64 1) else some LV.undef).bind fun t27_27 =>
 (pr.guard t24_24 false).bind fun b28 =>
 (if b28 = true then pr.conv .i64 t27_27 else some LV.undef).bind fun t28_28 =>
 (pr.guard t24_24 false).bind fun b29 =>
 (if b29 = true then some (getL q3.1 0) else some LV.undef).bind fun t29_29 =>
 (pr.guard t24_24 false).bind fun b30 =>
 (if b30 = true then pr.len true t29_29 else some LV.undef).bind fun t30_30 =>
 (pr.guard t24_24 false).bind fun b31 =>
 (if b31 = true then pr.bin .gtr t28_28 t30_30 else some LV.undef).bind fun t31_31 =>
 (pr.pick t24_24 (LV.bool true) t31_31).bind fun t32_32 =>
 condK t32_32 (
 (pr.call g id_ip4_fault q3.2 [(LV.int .i64 8)]).bind fun t33_33 =>
 pr.round noSlots .ret [(getL q3.1 0), (LV.bool false), t33_33, (getL q3.1 3)] q3.2) (
 (pr.idxStr (getL q3.1 0) (LV.int .i64 0)).bind fun t35_37 =>
 (pr.bin .eql t35_37 (LV.int .u8 131)).bind fun t36_38 =>
 (pr.guard t36_38 false).bind fun b40 =>
 (if b40 = true then some (getL q3.1 0) else some LV.undef).bind fun t38_40 =>
 (pr.guard t36_38 false).bind fun b41 =>
 (if b41 = true then pr.idxStr t38_40 (LV.int .i64 0) else some LV.undef).bind fun t39_41 =>
 (pr.guard t36_38 false).bind fun b42 =>
 (if b42 = true then pr.bin .eql t39_41 (LV.int .u8 137) else some LV.undef).bind fun t40_42 =>
 (pr.pick t36_38 (LV.bool true) t40_42).bind fun t41_43 =>
 condK t41_43 (
 (pr.idxStr (getL q3.1 0) (LV.int .i64 1)).bind fun t43_45 =>
 (pr.bin .lss t43_45 (LV.int .u8 3)).bind fun t44_46 =>
 condK t44_46 (
 (pr.call g id_ip4_fault q3.2 [(LV.int .i64 8)]).bind fun t45_47 =>
 pr.round noSlots .ret [(getL q3.1 0), (LV.bool false), t45_47, (getL q3.1 3)] q3.2) (
 (pr.guard (getL q3.1 3) false).bind fun b52 =>
 (if b52 = true then some (getL q3.1 0) else some LV.undef).bind fun t48_52 =>
 (pr.guard (getL q3.1 3) false).bind fun b53 =>
 (if b53 = true then pr.idxStr t48_52 (LV.int .i64 2) else some LV.undef).bind fun t49_53 =>
 (pr.guard (getL q3.1 3) false).bind fun b54 =>
 (if b54 = true then some (getL q3.1 0) else some LV.undef).bind fun t50_54 =>
 (pr.guard (getL q3.1 3) false).bind fun b55 =>
 (if b55 = true then pr.idxStr t50_54 (LV.int .i64 1) else some LV.undef).bind fun t51_55 =>
 (pr.guard (getL q3.1 3) false).bind fun b56 =>
 (if b56 = true then pr.bin .leq t49_53 t51_55 else some LV.undef).bind fun t52_56 =>
 (pr.pick (getL q3.1 3) (LV.bool true) t52_56).bind fun t53_57 =>
 (pr.idxStr (getL q3.1 0) (LV.int .i64 1)).bind fun t56_61 =>
 (pr.slc 0 (getL q3.1 0) (some t56_61) none).bind fun t57_62 =>
 pr.round noSlots .normal [t57_62, (getL q3.1 1), (getL q3.1 2), t53_57] q3.2)) (
 (pr.idxStr (getL q3.1 0) (LV.int .i64 1)).bind fun t56_66 =>
 (pr.slc 0 (getL q3.1 0) (some t56_66) none).bind fun t57_67 =>
 pr.round noSlots .normal [t57_67, (getL q3.1 1), (getL q3.1 2), (getL q3.1 3)] q3.2)))) (
 pr.round noSlots (.exit 0) [(getL q3.1 0), (getL q3.1 1), (getL q3.1 2), (getL q3.1 3)] q3.2)) ([a0, (LV.bool false), LV.nili, (LV.bool false)], noSlots)).bind fun r3 =>
 exIf r3.1 (.exit 0) (
 pr.fin none r3.2.2 [(getL r3.2.1 3), LV.nili]) (exIf r3.1 .ret (
 pr.fin none r3.2.2 [(getL r3.2.1 1), (getL r3.2.1 2)]) (exIf r3.1 .ret (
 pr.fin none r3.2.2 [(getL r3.2.1 1), (getL r3.2.1 2)]) (none)))
theorem F_ip4_Routed_eq (g : Call) (a0 : LV) : fnEv g c_ip4_Routed [a0] none = F_ip4_Routed g a0 := by kernel_rfl

/-- interpreter/interpreterref03.Routed -/
noncomputable def F_interpreterref03_Routed (g : Call) (a0 : LV) : Option (LV × Option LV) :=
 (whileW (fun q4 : List LV × Slots =>
 (pr.len true a0).bind fun t8_7 =>
 (pr.bin .lss (getL q4.1 0) t8_7).bind fun t9_8 =>
 (pr.guard t9_8 true).bind fun b10 =>
 (if b10 = true then some a0 else some LV.undef).bind fun t11_10 =>
 (pr.guard t9_8 true).bind fun b11 =>
 (if b11 = true then some (getL q4.1 0) else some LV.undef).bind fun t12_11 =>
 (pr.guard t9_8 true).bind fun b12 =>
 (if b12 = true then pr.idxStr t11_10 t12_11 else some LV.undef).bind fun t13_12 =>
 (pr.guard t9_8 true).bind fun b13 =>
 (if b13 = true then pr.bin .neq t13_12 (LV.int .u8 0) else some LV.undef).bind fun t14_13 =>
 (pr.pick t9_8 t14_13 (LV.bool false)).bind fun t15_14 =>
 condK t15_14 (
 (pr.idxStr a0 (getL q4.1 0)).bind fun t18_17 =>
 (pr.bin .eql t18_17 (LV.int .u8 1)).bind fun t19_18 =>
 condK t19_18 (
 (pr.bin .add (getL q4.1 0) (LV.int .i64 1)).bind fun t21_20 =>
 pr.round noSlots .normal [t21_20, (getL q4.1 1), (getL q4.1 2), (getL q4.1 3)] q4.2) (
 (pr.bin .add (getL q4.1 0) (LV.int .i64 1)).bind fun t23_23 =>
 (pr.len true a0).bind fun t25_25 =>
 (pr.bin .geq t23_23 t25_25).bind fun t26_26 =>
 (pr.guard t26_26 false).bind fun b28 =>
 (if b28 = true then some a0 else some LV.undef).bind fun t28_28 =>
 (pr.guard t26_26 false).bind fun b29 =>
 (if b29 = true then some (getL q4.1 0) else some LV.undef).bind fun t29_29 =>
 (pr.guard t26_26 false).bind fun b30 =>
 (if b30 = true then pr.bin .add t29_29 (LV.int .i64 1) else some LV.undef).bind fun t30_30 =>
 (pr.guard t26_26 false).bind fun b31 =>
 (if b31 = true then pr.idxStr t28_28 t30_30 else some LV.undef).bind fun t31_31 =>
 (pr.guard t26_26 false).bind fun b32 =>
 (if b32 = true then pr.bin .lss t31_31 (LV.int .u8 2) else some LV.undef).bind fun t32_32 =>
 (pr.pick t26_26 (LV.bool true) t32_32).bind fun t33_33 =>
 (pr.guard t33_33 false).bind fun b35 =>
 (if b35 = true then some (getL q4.1 0) else some LV.undef).bind fun t35_35 =>
 (pr.guard t33_33 false).bind fun b36 =>
 (if b36 = true then some a0 else some LV.undef).bind fun t36_36 =>
 (pr.guard t33_33 false).bind fun b37 =>
 (if b37 = true then some (getL q4.1 0) else some LV.undef).bind fun t37_37 =>
 (pr.guard t33_33 false).bind fun b38 =>
 (if b38 = true then pr.bin .add t37_37 (LV.int .i64 1) else some LV.undef).bind fun t38_38 =>
 (pr.guard t33_33 false).bind fun b39 =>
 (if b39 = true then pr.idxStr t36_36 t38_38 else some LV.undef).bind fun t39_39 =>
 (pr.guard t33_33 false).bind fun b40 =>
 (if b40 = true then pr.conv .i64 t39_39 else some LV.undef).bind fun t40_40 =>
 (pr.guard t33_33 false).bind fun b41 =>
 (if b41 = true then pr.bin .add t35_35 t40_40 else some LV.undef).bind fun t41_41 =>
 (pr.guard t33_33 false).bind fun b42 =>
 (if b42 = true then some a0 else some LV.undef).bind fun t42_42 =>
 (pr.guard t33_33 false).bind fun b43 =>
 (if b43 = true then pr.len true t42_42 else some LV.undef).bind fun t43_43 =>
 (pr.guard t33_33 false).bind fun b44 =>
 (if b44 = true then pr.bin .gtr t41_41 t43_43 else some LV.undef).bind fun t44_44 =>
 (pr.pick t33_33 (LV.bool true) t44_44).bind fun t45_45 =>
 condK t45_45 (
 pr.round noSlots .ret [(getL q4.1 0), (LV.bool false), (LV.int .i64 8), (getL q4.1 3)] q4.2) (
 (pr.idxStr a0 (getL q4.1 0)).bind fun t48_50 =>
 (pr.bin .eql t48_50 (LV.int .u8 131)).bind fun t49_51 =>
 (pr.guard t49_51 false).bind fun b53 =>
 (if b53 = true then some a0 else some LV.undef).bind fun t51_53 =>
 (pr.guard t49_51 false).bind fun b54 =>
 (if b54 = true then some (getL q4.1 0) else some LV.undef).bind fun t52_54 =>
 (pr.guard t49_51 false).bind fun b55 =>
 (if b55 = true then pr.idxStr t51_53 t52_54 else some LV.undef).bind fun t53_55 =>
 (pr.guard t49_51 false).bind fun b56 =>
 (if b56 = true then pr.bin .eql t53_55 (LV.int .u8 137) else some LV.undef).bind fun t54_56 =>
 (pr.pick t49_51 (LV.bool true) t54_56).bind fun t55_57 =>
 condK t55_57 (
 (pr.bin .add (getL q4.1 0) (LV.int .i64 1)).bind fun t58_60 =>
 (pr.idxStr a0 t58_60).bind fun t59_61 =>
 (pr.bin .lss t59_61 (LV.int .u8 3)).bind fun t60_62 =>
 condK t60_62 (
 pr.round noSlots .ret [(getL q4.1 0), (LV.bool false), (LV.int .i64 8), (getL q4.1 3)] q4.2) (
 (pr.bin .add (getL q4.1 0) (LV.int .i64 2)).bind fun t63_67 =>
 (pr.idxStr a0 t63_67).bind fun t64_68 =>
 (pr.bin .add (getL q4.1 0) (LV.int .i64 1)).bind fun t67_71 =>
 (pr.idxStr a0 t67_71).bind fun t68_72 =>
 (pr.bin .leq t64_68 t68_72).bind fun t69_73 =>
 condK t69_73 (
 (pr.bin .add (getL q4.1 0) (LV.int .i64 1)).bind fun t73_78 =>
 (pr.idxStr a0 t73_78).bind fun t74_79 =>
 (pr.conv .i64 t74_79).bind fun t75_80 =>
 (pr.bin .add (getL q4.1 0) t75_80).bind fun t76_81 =>
 pr.round noSlots .normal [t76_81, (getL q4.1 1), (getL q4.1 2), (LV.bool true)] q4.2) (
 (pr.bin .add (getL q4.1 0) (LV.int .i64 1)).bind fun t73_86 =>
 (pr.idxStr a0 t73_86).bind fun t74_87 =>
 (pr.conv .i64 t74_87).bind fun t75_88 =>
 (pr.bin .add (getL q4.1 0) t75_88).bind fun t76_89 =>
 pr.round noSlots .normal [t76_89, (getL q4.1 1), (getL q4.1 2), (getL q4.1 3)] q4.2))) (
 (pr.bin .add (getL q4.1 0) (LV.int .i64 1)).bind fun t73_94 =>
 (pr.idxStr a0 t73_94).bind fun t74_95 =>
 (pr.conv .i64 t74_95).bind fun t75_96 =>
 (pr.bin .add (getL q4.1 0) t75_96).bind fun t76_97 =>
 pr.round noSlots .normal [t76_97, (getL q4.1 1), (getL q4.1 2), (getL q4.1 3)] q4.2)))) (
 pr.round noSlots (.exit 0) [(getL q4.1 0), (getL q4.1 1), (getL q4.1 2), (getL q4.1 3)] q4.2)) ([(LV.int .i64 0), (LV.bool false), (LV.int .i64 0), (LV.bool false)], noSlots)).bind fun r4 =>
 exIf r4.1 (.exit 0) (
 pr.fin none r4.2.2 [(getL r4.2.1 3), (LV.int .i64 0)]) (exIf r4.1 .ret (
 pr.fin none r4.2.2 [(getL r4.2.1 1), (getL r4.2.1 2)]) (exIf r4.1 .ret (
 pr.fin none r4.2.2 [(getL r4.2.1 1), (getL r4.2.1 2)]) (none)))
theorem F_interpreterref03_Routed_eq (g : Call) (a0 : LV) : fnEv g c_interpreterref03_Routed [a0] none = F_interpreterref03_Routed g a0 := by kernel_rfl

/-- interpreter/ip6.why -/
noncomputable def F_ip6_why (g : Call) (a0 : LV) : Option (LV × Option LV) :=
 (pr.box a0).bind fun t1_0 =>
 (pr.fieldAddr 0 0 t1_0).bind fun t4_2 =>
 (pr.load 1 false noSlots t4_2).bind fun t5_3 =>
 (pr.call g id_ip6_within noSlots [t5_3, (LV.int .i64 255)]).bind fun t6_4 =>
 (pr.un .not t6_4).bind fun t7_5 =>
 (pr.guard t7_5 false).bind fun b7 =>
 (if b7 = true then pr.fieldAddr 1 1 t1_0 else some LV.undef).bind fun t9_7 =>
 (pr.guard t7_5 false).bind fun b8 =>
 (if b8 = true then pr.load 1 false noSlots t9_7 else some LV.undef).bind fun t10_8 =>
 (pr.guard t7_5 false).bind fun b9 =>
 (if b9 = true then pr.call g id_ip6_within noSlots [t10_8, (LV.int .i64 1048575)] else some LV.undef).bind fun t11_9 =>
 (pr.guard t7_5 false).bind fun b10 =>
 (if b10 = true then pr.un .not t11_9 else some LV.undef).bind fun t12_10 =>
 (pr.pick t7_5 (LV.bool true) t12_10).bind fun t13_11 =>
 (pr.guard t13_11 false).bind fun b13 =>
 (if b13 = true then pr.fieldAddr 2 2 t1_0 else some LV.undef).bind fun t15_13 =>
 (pr.guard t13_11 false).bind fun b14 =>
 (if b14 = true then pr.load 1 false noSlots t15_13 else some LV.undef).bind fun t16_14 =>
 (pr.guard t13_11 false).bind fun b15 =>
 (if b15 = true then pr.call g id_ip6_within noSlots [t16_14, (LV.int .i64 255)] else some LV.undef).bind fun t17_15 =>
 (pr.guard t13_11 false).bind fun b16 =>
 (if b16 = true then pr.un .not t17_15 else some LV.undef).bind fun t18_16 =>
 (pr.pick t13_11 (LV.bool true) t18_16).bind fun t19_17 =>
 (pr.guard t19_17 false).bind fun b19 =>
 (if b19 = true then pr.fieldAddr 10 40 t1_0 else some LV.undef).bind fun t21_19 =>
 (pr.guard t19_17 false).bind fun b20 =>
 (if b20 = true then pr.load 1 false noSlots t21_19 else some LV.undef).bind fun t22_20 =>
 (pr.guard t19_17 false).bind fun b21 =>
 (if b21 = true then pr.call g id_ip6_within noSlots [t22_20, (LV.int .i64 255)] else some LV.undef).bind fun t23_21 =>
 (pr.guard t19_17 false).bind fun b22 =>
 (if b22 = true then pr.un .not t23_21 else some LV.undef).bind fun t24_22 =>
 (pr.pick t19_17 (LV.bool true) t24_22).bind fun t25_23 =>
 (pr.guard t25_23 false).bind fun b25 =>
 (if b25 = true then pr.fieldAddr 8 38 t1_0 else some LV.undef).bind fun t27_25 =>
 (pr.guard t25_23 false).bind fun b26 =>
 (if b26 = true then pr.load 1 false noSlots t27_25 else some LV.undef).bind fun t28_26 =>
 (pr.guard t25_23 false).bind fun b27 =>
 (if b27 = true then pr.call g id_ip6_within noSlots [t28_26, (LV.int .i64 65528)] else some LV.undef).bind fun t29_27 =>
 (pr.guard t25_23 false).bind fun b28 =>
 (if b28 = true then pr.un .not t29_27 else some LV.undef).bind fun t30_28 =>
 (pr.pick t25_23 (LV.bool true) t30_28).bind fun t31_29 =>
 (pr.guard t31_29 false).bind fun b31 =>
 (if b31 = true then pr.fieldAddr 8 38 t1_0 else some LV.undef).bind fun t33_31 =>
 (pr.guard t31_29 false).bind fun b32 =>
 (if b32 = true then pr.load 1 false noSlots t33_31 else some LV.undef).bind fun t34_32 =>
 (pr.guard t31_29 false).bind fun b33 =>
 (if b33 = true then pr.bin .rem t34_32 (LV.int .i64 8) else some LV.undef).bind fun t35_33 =>
 (pr.guard t31_29 false).bind fun b34 =>
 (if b34 = true then pr.bin .neq t35_33 (LV.int .i64 0) else some LV.undef).bind fun t36_34 =>
 (pr.pick t31_29 (LV.bool true) t36_34).bind fun t37_35 =>
 condK t37_35 (
 pr.fin none noSlots [(LV.int .i64 13)]) (
 (pr.load 42 true noSlots t1_0).bind fun t39_38 =>
 (pr.call g id_ip6_kinds noSlots [t39_38]).bind fun t40_39 =>
 (pr.un .not t40_39).bind fun t41_40 =>
 condK t41_40 (
 pr.fin none noSlots [(LV.int .i64 10)]) (
 (pr.load 42 true noSlots t1_0).bind fun t43_43 =>
 (pr.call g id_ip6_formed noSlots [t43_43]).bind fun t44_44 =>
 (pr.un .not t44_44).bind fun t45_45 =>
 condK t45_45 (
 pr.fin none noSlots [(LV.int .i64 8)]) (
 (pr.fieldAddr 5 35 t1_0).bind fun t47_48 =>
 (pr.load 1 false noSlots t47_48).bind fun t48_49 =>
 (pr.len false t48_49).bind fun t49_50 =>
 (pr.bin .gtr t49_50 (LV.int .i64 8)).bind fun t50_51 =>
 (pr.guard t50_51 false).bind fun b53 =>
 (if b53 = true then pr.fieldAddr 11 41 t1_0 else some LV.undef).bind fun t52_53 =>
 (pr.guard t50_51 false).bind fun b54 =>
 (if b54 = true then pr.load 1 false noSlots t52_53 else some LV.undef).bind fun t53_54 =>
 (pr.guard t50_51 false).bind fun b55 =>
 (if b55 = true then pr.len true t53_54 else some LV.undef).bind fun t54_55 =>
 (pr.guard t50_51 false).bind fun b56 =>
 (if b56 = true then pr.fieldAddr 8 38 t1_0 else some LV.undef).bind fun t55_56 =>
 (pr.guard t50_51 false).bind fun b57 =>
 (if b57 = true then pr.load 1 false noSlots t55_56 else some LV.undef).bind fun t56_57 =>
 (pr.guard t50_51 false).bind fun b58 =>
 (if b58 = true then pr.bin .sub (LV.int .i64 65535) t56_57 else some LV.undef).bind fun t57_58 =>
 (pr.guard t50_51 false).bind fun b59 =>
 (if b59 = true then pr.bin .gtr t54_55 t57_58 else some LV.undef).bind fun t58_59 =>
 (pr.pick t50_51 (LV.bool true) t58_59).bind fun t59_60 =>
 (pr.guard t59_60 false).bind fun b62 =>
 (if b62 = true then pr.load 42 true noSlots t1_0 else some LV.undef).bind fun t61_62 =>
 (pr.guard t59_60 false).bind fun b63 =>
 (if b63 = true then pr.call g id_ip6_size noSlots [t61_62] else some LV.undef).bind fun t62_63 =>
 (pr.guard t59_60 false).bind fun b64 =>
 (if b64 = true then pr.bin .gtr t62_63 (LV.int .i64 65535) else some LV.undef).bind fun t63_64 =>
 (pr.pick t59_60 (LV.bool true) t63_64).bind fun t64_65 =>
 condK t64_65 (
 pr.fin none noSlots [(LV.int .i64 3)]) (
 pr.fin none noSlots [(LV.int .i64 0)]))))
theorem F_ip6_why_eq (g : Call) (a0 : LV) : fnEv g c_ip6_why [a0] none = F_ip6_why g a0 := by kernel_rfl

/-- interpreter/ip6.fault -/
noncomputable def F_ip6_fault (g : Call) (a0 : LV) : Option (LV × Option LV) :=
 (pr.parts (LV.agg [(LV.int .i64 0), (LV.int .i64 0)]) [(0, a0)]).bind fun t4_2 =>
 (pr.box t4_2).bind fun t5_3 =>
 (pr.iface ty_ptr_num_Fault t5_3).bind fun t6_4 =>
 pr.fin none noSlots [t6_4]
theorem F_ip6_fault_eq (g : Call) (a0 : LV) : fnEv g c_ip6_fault [a0] none = F_ip6_fault g a0 := by kernel_rfl

/-- interpreter/ip6.big -/
noncomputable def F_ip6_big (g : Call) (a0 : LV) (a1 : LV) : Option (LV × Option LV) :=
 (pr.call g id_num_Big noSlots [a0, a1]).bind fun t10_3 =>
 (pr.extract t10_3 0).bind fun t11_5 =>
 (pr.extract t10_3 1).bind fun t12_6 =>
 pr.fin none noSlots [t11_5]
theorem F_ip6_big_eq (g : Call) (a0 : LV) (a1 : LV) : fnEv g c_ip6_big [a0, a1] none = F_ip6_big g a0 a1 := by kernel_rfl

/-- interpreter/ip4.fault -/
noncomputable def F_ip4_fault (g : Call) (a0 : LV) : Option (LV × Option LV) :=
 (pr.parts (LV.agg [(LV.int .i64 0), (LV.int .i64 0)]) [(0, a0)]).bind fun t4_2 =>
 (pr.box t4_2).bind fun t5_3 =>
 (pr.iface ty_ptr_num_Fault t5_3).bind fun t6_4 =>
 pr.fin none noSlots [t6_4]
theorem F_ip4_fault_eq (g : Call) (a0 : LV) : fnEv g c_ip4_fault [a0] none = F_ip4_fault g a0 := by kernel_rfl

/-- interpreter/sum.Right -/
noncomputable def F_sum_Right (g : Call) (a0 : LV) : Option (LV × Option LV) :=
 (pr.call g id_sum_Of noSlots [a0]).bind fun t4_2 =>
 (pr.bin .eql t4_2 (LV.int .i64 0)).bind fun t5_3 =>
 pr.fin none noSlots [t5_3]
theorem F_sum_Right_eq (g : Call) (a0 : LV) : fnEv g c_sum_Right [a0] none = F_sum_Right g a0 := by kernel_rfl

/-- interpreter/ip4.Parse$1 -/
noncomputable def F_ip4_Parse_1 (g : Call) (a0 : LV) (a1 : LV) : Option (LV × Option LV) :=
 (pr.load 1 false noSlots a1).bind fun t4_1 =>
 (pr.idxStr t4_1 a0).bind fun t6_3 =>
 (pr.conv .i64 t6_3).bind fun t7_4 =>
 (pr.bin .shl t7_4 (LV.int .u64 8)).bind fun t8_5 =>
 (pr.load 1 false noSlots a1).bind fun t9_6 =>
 (pr.bin .add a0 (LV.int .i64 1)).bind fun t11_8 =>
 (pr.idxStr t9_6 t11_8).bind fun t12_9 =>
 (pr.conv .i64 t12_9).bind fun t13_10 =>
 (pr.bin .or t8_5 t13_10).bind fun t14_11 =>
 pr.fin none noSlots [t14_11]
theorem F_ip4_Parse_1_eq (g : Call) (a0 : LV) (a1 : LV) : fnEv g c_ip4_Parse_1 [a0, a1] none = F_ip4_Parse_1 g a0 a1 := by kernel_rfl

/-- interpreter/ip4.why -/
noncomputable def F_ip4_why (g : Call) (a0 : LV) : Option (LV × Option LV) :=
 (pr.box a0).bind fun t1_0 =>
 (pr.fieldAddr 0 0 t1_0).bind fun t4_2 =>
 (pr.load 1 false noSlots t4_2).bind fun t5_3 =>
 (pr.fieldAddr 2 2 t1_0).bind fun t6_4 =>
 (pr.load 1 false noSlots t6_4).bind fun t7_5 =>
 (pr.fieldAddr 3 3 t1_0).bind fun t8_6 =>
 (pr.load 1 false noSlots t8_6).bind fun t9_7 =>
 (pr.bsl (LV.int .i64 0) 3 [(0, t5_3), (1, t7_5), (2, t9_7)]).bind fun t10_8 =>
 (pr.call g id_ip4_byteful noSlots [t10_8]).bind fun t11_9 =>
 (pr.un .not t11_9).bind fun t12_10 =>
 (pr.guard t12_10 false).bind fun b12 =>
 (if b12 = true then pr.fieldAddr 1 1 t1_0 else some LV.undef).bind fun t14_12 =>
 (pr.guard t12_10 false).bind fun b13 =>
 (if b13 = true then pr.load 1 false noSlots t14_12 else some LV.undef).bind fun t15_13 =>
 (pr.guard t12_10 false).bind fun b14 =>
 (if b14 = true then pr.bin .lss t15_13 (LV.int .i64 0) else some LV.undef).bind fun t16_14 =>
 (pr.pick t12_10 (LV.bool true) t16_14).bind fun t17_15 =>
 (pr.guard t17_15 false).bind fun b17 =>
 (if b17 = true then pr.fieldAddr 1 1 t1_0 else some LV.undef).bind fun t19_17 =>
 (pr.guard t17_15 false).bind fun b18 =>
 (if b18 = true then pr.load 1 false noSlots t19_17 else some LV.undef).bind fun t20_18 =>
 (pr.guard t17_15 false).bind fun b19 =>
 (if b19 = true then pr.bin .gtr t20_18 (LV.int .i64 65535) else some LV.undef).bind fun t21_19 =>
 (pr.pick t17_15 (LV.bool true) t21_19).bind fun t22_20 =>
 (pr.guard t22_20 false).bind fun b22 =>
 (if b22 = true then pr.fieldAddr 4 4 t1_0 else some LV.undef).bind fun t24_22 =>
 (pr.guard t22_20 false).bind fun b23 =>
 (if b23 = true then pr.load 1 false noSlots t24_22 else some LV.undef).bind fun t25_23 =>
 (pr.guard t22_20 false).bind fun b24 =>
 (if b24 = true then pr.bin .lss t25_23 (LV.int .i64 0) else some LV.undef).bind fun t26_24 =>
 (pr.pick t22_20 (LV.bool true) t26_24).bind fun t27_25 =>
 (pr.guard t27_25 false).bind fun b27 =>
 (if b27 = true then pr.fieldAddr 4 4 t1_0 else some LV.undef).bind fun t29_27 =>
 (pr.guard t27_25 false).bind fun b28 =>
 (if b28 = true then pr.load 1 false noSlots t29_27 else some LV.undef).bind fun t30_28 =>
 (pr.guard t27_25 false).bind fun b29 =>
 (if b29 = true then pr.bin .gtr t30_28 (LV.int .i64 65528) else some LV.undef).bind fun t31_29 =>
 (pr.pick t27_25 (LV.bool true) t31_29).bind fun t32_30 =>
 (pr.guard t32_30 false).bind fun b32 =>
 (if b32 = true then pr.fieldAddr 4 4 t1_0 else some LV.undef).bind fun t34_32 =>
 (pr.guard t32_30 false).bind fun b33 =>
 (if b33 = true then pr.load 1 false noSlots t34_32 else some LV.undef).bind fun t35_33 =>
 (pr.guard t32_30 false).bind fun b34 =>
 (if b34 = true then pr.bin .rem t35_33 (LV.int .i64 8) else some LV.undef).bind fun t36_34 =>
 (pr.guard t32_30 false).bind fun b35 =>
 (if b35 = true then pr.bin .neq t36_34 (LV.int .i64 0) else some LV.undef).bind fun t37_35 =>
 (pr.pick t32_30 (LV.bool true) t37_35).bind fun t38_36 =>
 condK t38_36 (
 pr.fin none noSlots [(LV.int .i64 13)]) (
 (pr.fieldAddr 9 15 t1_0).bind fun t40_39 =>
 (pr.load 1 false noSlots t40_39).bind fun t41_40 =>
 (pr.len true t41_40).bind fun t42_41 =>
 (pr.bin .gtr t42_41 (LV.int .i64 40)).bind fun t43_42 =>
 (pr.guard t43_42 false).bind fun b44 =>
 (if b44 = true then pr.fieldAddr 9 15 t1_0 else some LV.undef).bind fun t45_44 =>
 (pr.guard t43_42 false).bind fun b45 =>
 (if b45 = true then pr.load 1 false noSlots t45_44 else some LV.undef).bind fun t46_45 =>
 (pr.guard t43_42 false).bind fun b46 =>
 (if b46 = true then pr.len true t46_45 else some LV.undef).bind fun t47_46 =>
 (pr.guard t43_42 false).bind fun b47 =>
 (if b47 = true then pr.bin .rem t47_46 (LV.int .i64 4) else some LV.undef).bind fun t48_47 =>
 (pr.guard t43_42 false).bind fun b48 =>
 (if b48 = true then pr.bin .neq t48_47 (LV.int .i64 0) else some LV.undef).bind fun t49_48 =>
 (pr.pick t43_42 (LV.bool true) t49_48).bind fun t50_49 =>
 (pr.guard t50_49 false).bind fun b51 =>
 (if b51 = true then pr.fieldAddr 6 6 t1_0 else some LV.undef).bind fun t52_51 =>
 (pr.guard t50_49 false).bind fun b52 =>
 (if b52 = true then pr.load 1 false noSlots t52_51 else some LV.undef).bind fun t53_52 =>
 (pr.guard t50_49 false).bind fun b53 =>
 (if b53 = true then some t53_52 else some LV.undef).bind fun t54_53 =>
 (pr.guard t54_53 true).bind fun b54 =>
 (if b54 = true then pr.fieldAddr 10 16 t1_0 else some LV.undef).bind fun t55_54 =>
 (pr.guard t54_53 true).bind fun b55 =>
 (if b55 = true then pr.load 1 false noSlots t55_54 else some LV.undef).bind fun t56_55 =>
 (pr.guard t54_53 true).bind fun b56 =>
 (if b56 = true then pr.bin .eql t56_55 (LV.str []) else some LV.undef).bind fun t57_56 =>
 (pr.guard t54_53 true).bind fun b57 =>
 (if b57 = true then some t57_56 else some LV.undef).bind fun t58_57 =>
 (pr.guard t58_57 false).bind fun b58 =>
 (if b58 = true then pr.fieldAddr 10 16 t1_0 else some LV.undef).bind fun t59_58 =>
 (pr.guard t58_57 false).bind fun b59 =>
 (if b59 = true then pr.load 1 false noSlots t59_58 else some LV.undef).bind fun t60_59 =>
 (pr.guard t58_57 false).bind fun b60 =>
 (if b60 = true then pr.len true t60_59 else some LV.undef).bind fun t61_60 =>
 (pr.guard t58_57 false).bind fun b61 =>
 (if b61 = true then pr.bin .rem t61_60 (LV.int .i64 8) else some LV.undef).bind fun t62_61 =>
 (pr.guard t58_57 false).bind fun b62 =>
 (if b62 = true then pr.bin .neq t62_61 (LV.int .i64 0) else some LV.undef).bind fun t63_62 =>
 (pr.guard t54_53 true).bind fun b63 =>
 (if b63 = true then pr.pick t58_57 (LV.bool true) t63_62 else some LV.undef).bind fun t64_63 =>
 (pr.guard t50_49 false).bind fun b64 =>
 (if b64 = true then pr.pick t54_53 t64_63 (LV.bool false) else some LV.undef).bind fun t65_64 =>
 (pr.pick t50_49 (LV.bool true) t65_64).bind fun t66_65 =>
 condK t66_65 (
 pr.fin none noSlots [(LV.int .i64 8)]) (
 (pr.fieldAddr 10 16 t1_0).bind fun t68_68 =>
 (pr.load 1 false noSlots t68_68).bind fun t69_69 =>
 (pr.len true t69_69).bind fun t70_70 =>
 (pr.fieldAddr 9 15 t1_0).bind fun t71_71 =>
 (pr.load 1 false noSlots t71_71).bind fun t72_72 =>
 (pr.len true t72_72).bind fun t73_73 =>
 (pr.bin .sub (LV.int .i64 65515) t73_73).bind fun t74_74 =>
 (pr.fieldAddr 4 4 t1_0).bind fun t75_75 =>
 (pr.load 1 false noSlots t75_75).bind fun t76_76 =>
 (pr.bin .sub t74_74 t76_76).bind fun t77_77 =>
 (pr.bin .gtr t70_70 t77_77).bind fun t78_78 =>
 condK t78_78 (
 pr.fin none noSlots [(LV.int .i64 3)]) (
 pr.fin none noSlots [(LV.int .i64 0)])))
theorem F_ip4_why_eq (g : Call) (a0 : LV) : fnEv g c_ip4_why [a0] none = F_ip4_why g a0 := by kernel_rfl

/-- interpreter/num.New -/
noncomputable def F_num_New (g : Call) (a0 : LV) : Option (LV × Option LV) :=
 (pr.parts (LV.agg [(LV.str []), (LV.int .i64 0), LV.nilp]) [(0, a0)]).bind fun t4_2 =>
 (pr.boxM t4_2 5 noSlots).bind fun t5_3 =>
 pr.fin none t5_3.2 [t5_3.1]
theorem F_num_New_eq (g : Call) (a0 : LV) : fnEv g c_num_New [a0] none = F_num_New g a0 := by kernel_rfl

/-- (*interpreter/num.Reader).U32 -/
noncomputable def F_num_Reader_U32 (g : Call) (h : LV) : Option (LV × Option LV) :=
 (pr.callRw g id_num_Reader_number (upd noSlots 0 (.obj 0 h)) [(LV.ptr 0 0 [] 0), (LV.int .i64 4)]).bind fun t5_3 =>
 (pr.extract t5_3.1 0).bind fun t6_4 =>
 (pr.extract t5_3.1 1).bind fun t7_5 =>
 pr.fin (some h) t5_3.2 [t6_4, t7_5]
theorem F_num_Reader_U32_eq (g : Call) (h : LV) : fnEv g c_num_Reader_U32 [(LV.ptr 0 0 [] 0)] (some h) = F_num_Reader_U32 g h := by kernel_rfl

/-- interpreter/ip6.Chain -/
noncomputable def F_ip6_Chain (g : Call) (a0 : LV) (a1 : LV) : Option (LV × Option LV) :=
 (whileW (fun q4 : List LV × Slots =>
 (pr.call g id_ip6_extends q4.2 [(getL q4.1 4)]).bind fun t11_6 =>
 condK t11_6 (
 (pr.len true (getL q4.1 5)).bind fun t13_10 =>
 (pr.bin .geq t13_10 (LV.int .i64 2)).bind fun t14_11 =>
 condK t14_11 (
 (pr.idxStr (getL q4.1 5) (LV.int .i64 1)).bind fun t17_14 =>
 (pr.conv .i64 t17_14).bind fun t18_15 =>
 (pr.bin .mul t18_15 (LV.int .i64 8)).bind fun t19_16 =>
 (pr.bin .add (LV.int .i64 8) t19_16).bind fun t20_17 =>
 (pr.bin .eql (getL q4.1 4) (LV.int .i64 0)).bind fun t23_20 =>
 (pr.guard t23_20 true).bind fun b22 =>
 (if b22 = true then some (getL q4.1 0) else some LV.undef).bind fun t25_22 =>
 (pr.guard t23_20 true).bind fun b23 =>
 (if b23 = true then pr.len false t25_22 else some LV.undef).bind fun t26_23 =>
 (pr.guard t23_20 true).bind fun b24 =>
 (if b24 = true then pr.bin .gtr t26_23 (LV.int .i64 0) else some LV.undef).bind fun t27_24 =>
 (pr.pick t23_20 t27_24 (LV.bool false)).bind fun t28_25 =>
 condK t28_25 (
 (pr.bin .neq (LV.int .i64 8) (LV.int .i64 0)).bind fun t39_29 =>
 condK t39_29 (
 (pr.call g id_ip6_fault q4.2 [(LV.int .i64 8)]).bind fun t41_31 =>
 pr.round noSlots .ret [LV.nils, (LV.int .i64 0), (LV.str []), t41_31, (getL q4.1 4), (getL q4.1 5)] q4.2) (
 (pr.slc 0 (getL q4.1 5) (some (LV.int .i64 2)) (some t20_17)).bind fun t46_40 =>
 (pr.parts (LV.agg [(LV.int .i64 0), (LV.str [])]) [(0, (getL q4.1 4)), (1, t46_40)]).bind fun t47_41 =>
 (pr.bsl (LV.agg [(LV.int .i64 0), (LV.str [])]) 1 [(0, t47_41)]).bind fun t48_42 =>
 (pr.append 2 24 49 q4.2 (getL q4.1 0) t48_42).bind fun t49_43 =>
 (pr.idxStr (getL q4.1 5) (LV.int .i64 0)).bind fun t51_46 =>
 (pr.conv .i64 t51_46).bind fun t52_47 =>
 (pr.slc 0 (getL q4.1 5) (some t20_17) none).bind fun t55_50 =>
 pr.round noSlots .normal [t49_43.1, (getL q4.1 1), (getL q4.1 2), (getL q4.1 3), t52_47, t55_50] t49_43.2)) (
 (pr.len false (getL q4.1 0)).bind fun t31_54 =>
 (pr.bin .geq t31_54 (LV.int .i64 8)).bind fun t32_55 =>
 condK t32_55 (
 (pr.bin .neq (LV.int .i64 3) (LV.int .i64 0)).bind fun t39_59 =>
 condK t39_59 (
 (pr.call g id_ip6_fault q4.2 [(LV.int .i64 3)]).bind fun t41_61 =>
 pr.round noSlots .ret [LV.nils, (LV.int .i64 0), (LV.str []), t41_61, (getL q4.1 4), (getL q4.1 5)] q4.2) (
 (pr.slc 0 (getL q4.1 5) (some (LV.int .i64 2)) (some t20_17)).bind fun t46_70 =>
 (pr.parts (LV.agg [(LV.int .i64 0), (LV.str [])]) [(0, (getL q4.1 4)), (1, t46_70)]).bind fun t47_71 =>
 (pr.bsl (LV.agg [(LV.int .i64 0), (LV.str [])]) 1 [(0, t47_71)]).bind fun t48_72 =>
 (pr.append 2 24 49 q4.2 (getL q4.1 0) t48_72).bind fun t49_73 =>
 (pr.idxStr (getL q4.1 5) (LV.int .i64 0)).bind fun t51_76 =>
 (pr.conv .i64 t51_76).bind fun t52_77 =>
 (pr.slc 0 (getL q4.1 5) (some t20_17) none).bind fun t55_80 =>
 pr.round noSlots .normal [t49_73.1, (getL q4.1 1), (getL q4.1 2), (getL q4.1 3), t52_77, t55_80] t49_73.2)) (
 (pr.len true (getL q4.1 5)).bind fun t35_84 =>
 (pr.bin .lss t35_84 t20_17).bind fun t37_86 =>
 condK t37_86 (
 (pr.bin .neq (LV.int .i64 7) (LV.int .i64 0)).bind fun t39_90 =>
 condK t39_90 (
 (pr.call g id_ip6_fault q4.2 [(LV.int .i64 7)]).bind fun t41_92 =>
 pr.round noSlots .ret [LV.nils, (LV.int .i64 0), (LV.str []), t41_92, (getL q4.1 4), (getL q4.1 5)] q4.2) (
 (pr.slc 0 (getL q4.1 5) (some (LV.int .i64 2)) (some t20_17)).bind fun t46_101 =>
 (pr.parts (LV.agg [(LV.int .i64 0), (LV.str [])]) [(0, (getL q4.1 4)), (1, t46_101)]).bind fun t47_102 =>
 (pr.bsl (LV.agg [(LV.int .i64 0), (LV.str [])]) 1 [(0, t47_102)]).bind fun t48_103 =>
 (pr.append 2 24 49 q4.2 (getL q4.1 0) t48_103).bind fun t49_104 =>
 (pr.idxStr (getL q4.1 5) (LV.int .i64 0)).bind fun t51_107 =>
 (pr.conv .i64 t51_107).bind fun t52_108 =>
 (pr.slc 0 (getL q4.1 5) (some t20_17) none).bind fun t55_111 =>
 pr.round noSlots .normal [t49_104.1, (getL q4.1 1), (getL q4.1 2), (getL q4.1 3), t52_108, t55_111] t49_104.2)) (
 (pr.bin .neq (LV.int .i64 0) (LV.int .i64 0)).bind fun t39_115 =>
 condK t39_115 (
 (pr.call g id_ip6_fault q4.2 [(LV.int .i64 0)]).bind fun t41_117 =>
 pr.round noSlots .ret [LV.nils, (LV.int .i64 0), (LV.str []), t41_117, (getL q4.1 4), (getL q4.1 5)] q4.2) (
 (pr.slc 0 (getL q4.1 5) (some (LV.int .i64 2)) (some t20_17)).bind fun t46_126 =>
 (pr.parts (LV.agg [(LV.int .i64 0), (LV.str [])]) [(0, (getL q4.1 4)), (1, t46_126)]).bind fun t47_127 =>
 (pr.bsl (LV.agg [(LV.int .i64 0), (LV.str [])]) 1 [(0, t47_127)]).bind fun t48_128 =>
 (pr.append 2 24 49 q4.2 (getL q4.1 0) t48_128).bind fun t49_129 =>
 (pr.idxStr (getL q4.1 5) (LV.int .i64 0)).bind fun t51_132 =>
 (pr.conv .i64 t51_132).bind fun t52_133 =>
 (pr.slc 0 (getL q4.1 5) (some t20_17) none).bind fun t55_136 =>
 pr.round noSlots .normal [t49_129.1, (getL q4.1 1), (getL q4.1 2), (getL q4.1 3), t52_133, t55_136] t49_129.2))))) (
 (pr.bin .eql (getL q4.1 4) (LV.int .i64 0)).bind fun t23_140 =>
 (pr.guard t23_140 true).bind fun b142 =>
 (if b142 = true then some (getL q4.1 0) else some LV.undef).bind fun t25_142 =>
 (pr.guard t23_140 true).bind fun b143 =>
 (if b143 = true then pr.len false t25_142 else some LV.undef).bind fun t26_143 =>
 (pr.guard t23_140 true).bind fun b144 =>
 (if b144 = true then pr.bin .gtr t26_143 (LV.int .i64 0) else some LV.undef).bind fun t27_144 =>
 (pr.pick t23_140 t27_144 (LV.bool false)).bind fun t28_145 =>
 condK t28_145 (
 (pr.bin .neq (LV.int .i64 8) (LV.int .i64 0)).bind fun t39_149 =>
 condK t39_149 (
 (pr.call g id_ip6_fault q4.2 [(LV.int .i64 8)]).bind fun t41_151 =>
 pr.round noSlots .ret [LV.nils, (LV.int .i64 0), (LV.str []), t41_151, (getL q4.1 4), (getL q4.1 5)] q4.2) (
 (pr.slc 0 (getL q4.1 5) (some (LV.int .i64 2)) (some (LV.int .i64 8))).bind fun t46_160 =>
 (pr.parts (LV.agg [(LV.int .i64 0), (LV.str [])]) [(0, (getL q4.1 4)), (1, t46_160)]).bind fun t47_161 =>
 (pr.bsl (LV.agg [(LV.int .i64 0), (LV.str [])]) 1 [(0, t47_161)]).bind fun t48_162 =>
 (pr.append 2 24 49 q4.2 (getL q4.1 0) t48_162).bind fun t49_163 =>
 (pr.idxStr (getL q4.1 5) (LV.int .i64 0)).bind fun t51_166 =>
 (pr.conv .i64 t51_166).bind fun t52_167 =>
 (pr.slc 0 (getL q4.1 5) (some (LV.int .i64 8)) none).bind fun t55_170 =>
 pr.round noSlots .normal [t49_163.1, (getL q4.1 1), (getL q4.1 2), (getL q4.1 3), t52_167, t55_170] t49_163.2)) (
 (pr.len false (getL q4.1 0)).bind fun t31_174 =>
 (pr.bin .geq t31_174 (LV.int .i64 8)).bind fun t32_175 =>
 condK t32_175 (
 (pr.bin .neq (LV.int .i64 3) (LV.int .i64 0)).bind fun t39_179 =>
 condK t39_179 (
 (pr.call g id_ip6_fault q4.2 [(LV.int .i64 3)]).bind fun t41_181 =>
 pr.round noSlots .ret [LV.nils, (LV.int .i64 0), (LV.str []), t41_181, (getL q4.1 4), (getL q4.1 5)] q4.2) (
 (pr.slc 0 (getL q4.1 5) (some (LV.int .i64 2)) (some (LV.int .i64 8))).bind fun t46_190 =>
 (pr.parts (LV.agg [(LV.int .i64 0), (LV.str [])]) [(0, (getL q4.1 4)), (1, t46_190)]).bind fun t47_191 =>
 (pr.bsl (LV.agg [(LV.int .i64 0), (LV.str [])]) 1 [(0, t47_191)]).bind fun t48_192 =>
 (pr.append 2 24 49 q4.2 (getL q4.1 0) t48_192).bind fun t49_193 =>
 (pr.idxStr (getL q4.1 5) (LV.int .i64 0)).bind fun t51_196 =>
 (pr.conv .i64 t51_196).bind fun t52_197 =>
 (pr.slc 0 (getL q4.1 5) (some (LV.int .i64 8)) none).bind fun t55_200 =>
 pr.round noSlots .normal [t49_193.1, (getL q4.1 1), (getL q4.1 2), (getL q4.1 3), t52_197, t55_200] t49_193.2)) (
 (pr.len true (getL q4.1 5)).bind fun t35_204 =>
 (pr.bin .lss t35_204 (LV.int .i64 8)).bind fun t37_206 =>
 condK t37_206 (
 (pr.bin .neq (LV.int .i64 7) (LV.int .i64 0)).bind fun t39_210 =>
 condK t39_210 (
 (pr.call g id_ip6_fault q4.2 [(LV.int .i64 7)]).bind fun t41_212 =>
 pr.round noSlots .ret [LV.nils, (LV.int .i64 0), (LV.str []), t41_212, (getL q4.1 4), (getL q4.1 5)] q4.2) (
 (pr.slc 0 (getL q4.1 5) (some (LV.int .i64 2)) (some (LV.int .i64 8))).bind fun t46_221 =>
 (pr.parts (LV.agg [(LV.int .i64 0), (LV.str [])]) [(0, (getL q4.1 4)), (1, t46_221)]).bind fun t47_222 =>
 (pr.bsl (LV.agg [(LV.int .i64 0), (LV.str [])]) 1 [(0, t47_222)]).bind fun t48_223 =>
 (pr.append 2 24 49 q4.2 (getL q4.1 0) t48_223).bind fun t49_224 =>
 (pr.idxStr (getL q4.1 5) (LV.int .i64 0)).bind fun t51_227 =>
 (pr.conv .i64 t51_227).bind fun t52_228 =>
 (pr.slc 0 (getL q4.1 5) (some (LV.int .i64 8)) none).bind fun t55_231 =>
 pr.round noSlots .normal [t49_224.1, (getL q4.1 1), (getL q4.1 2), (getL q4.1 3), t52_228, t55_231] t49_224.2)) (
 (pr.bin .neq (LV.int .i64 0) (LV.int .i64 0)).bind fun t39_235 =>
 condK t39_235 (
 (pr.call g id_ip6_fault q4.2 [(LV.int .i64 0)]).bind fun t41_237 =>
 pr.round noSlots .ret [LV.nils, (LV.int .i64 0), (LV.str []), t41_237, (getL q4.1 4), (getL q4.1 5)] q4.2) (
 (pr.slc 0 (getL q4.1 5) (some (LV.int .i64 2)) (some (LV.int .i64 8))).bind fun t46_246 =>
 (pr.parts (LV.agg [(LV.int .i64 0), (LV.str [])]) [(0, (getL q4.1 4)), (1, t46_246)]).bind fun t47_247 =>
 (pr.bsl (LV.agg [(LV.int .i64 0), (LV.str [])]) 1 [(0, t47_247)]).bind fun t48_248 =>
 (pr.append 2 24 49 q4.2 (getL q4.1 0) t48_248).bind fun t49_249 =>
 (pr.idxStr (getL q4.1 5) (LV.int .i64 0)).bind fun t51_252 =>
 (pr.conv .i64 t51_252).bind fun t52_253 =>
 (pr.slc 0 (getL q4.1 5) (some (LV.int .i64 8)) none).bind fun t55_256 =>
 pr.round noSlots .normal [t49_249.1, (getL q4.1 1), (getL q4.1 2), (getL q4.1 3), t52_253, t55_256] t49_249.2)))))) (
 pr.round noSlots (.exit 0) [(getL q4.1 0), (getL q4.1 1), (getL q4.1 2), (getL q4.1 3), (getL q4.1 4), (getL q4.1 5)] q4.2)) ([LV.nils, (LV.int .i64 0), (LV.str []), LV.nili, a0, a1], noSlots)).bind fun r4 =>
 exIf r4.1 (.exit 0) (
 pr.fin none r4.2.2 [(getL r4.2.1 0), (getL r4.2.1 4), (getL r4.2.1 5), LV.nili]) (exIf r4.1 .ret (
 pr.fin none r4.2.2 [(getL r4.2.1 0), (getL r4.2.1 1), (getL r4.2.1 2), (getL r4.2.1 3)]) (none))
theorem F_ip6_Chain_eq (g : Call) (a0 : LV) (a1 : LV) : fnEv g c_ip6_Chain [a0, a1] none = F_ip6_Chain g a0 a1 := by kernel_rfl

/-- interpreter/ip6.pieced -/
noncomputable def F_ip6_pieced (g : Call) (a0 : LV) : Option (LV × Option LV) :=
 (pr.box a0).bind fun t1_0 =>
 (pr.fieldAddr 9 39 t1_0).bind fun t3_2 =>
 (pr.load 1 false noSlots t3_2).bind fun t4_3 =>
 (pr.un .not t4_3).bind fun t5_4 =>
 (pr.guard t5_4 false).bind fun b6 =>
 (if b6 = true then pr.fieldAddr 11 41 t1_0 else some LV.undef).bind fun t7_6 =>
 (pr.guard t5_4 false).bind fun b7 =>
 (if b7 = true then pr.load 1 false noSlots t7_6 else some LV.undef).bind fun t8_7 =>
 (pr.guard t5_4 false).bind fun b8 =>
 (if b8 = true then pr.bin .neq t8_7 (LV.str []) else some LV.undef).bind fun t9_8 =>
 (pr.guard t5_4 false).bind fun b9 =>
 (if b9 = true then some t9_8 else some LV.undef).bind fun t10_9 =>
 (pr.guard t10_9 true).bind fun b10 =>
 (if b10 = true then pr.fieldAddr 11 41 t1_0 else some LV.undef).bind fun t11_10 =>
 (pr.guard t10_9 true).bind fun b11 =>
 (if b11 = true then pr.load 1 false noSlots t11_10 else some LV.undef).bind fun t12_11 =>
 (pr.guard t10_9 true).bind fun b12 =>
 (if b12 = true then pr.len true t12_11 else some LV.undef).bind fun t13_12 =>
 (pr.guard t10_9 true).bind fun b13 =>
 (if b13 = true then pr.bin .rem t13_12 (LV.int .i64 8) else some LV.undef).bind fun t14_13 =>
 (pr.guard t10_9 true).bind fun b14 =>
 (if b14 = true then pr.bin .eql t14_13 (LV.int .i64 0) else some LV.undef).bind fun t15_14 =>
 (pr.guard t5_4 false).bind fun b15 =>
 (if b15 = true then pr.pick t10_9 t15_14 (LV.bool false) else some LV.undef).bind fun t16_15 =>
 (pr.pick t5_4 (LV.bool true) t16_15).bind fun t17_16 =>
 pr.fin none noSlots [t17_16]
theorem F_ip6_pieced_eq (g : Call) (a0 : LV) : fnEv g c_ip6_pieced [a0] none = F_ip6_pieced g a0 := by kernel_rfl

/-- interpreter/ip4.big -/
noncomputable def F_ip4_big (g : Call) (a0 : LV) (a1 : LV) : Option (LV × Option LV) :=
 (pr.call g id_num_Big noSlots [a0, a1]).bind fun t10_3 =>
 (pr.extract t10_3 0).bind fun t11_5 =>
 (pr.extract t10_3 1).bind fun t12_6 =>
 pr.fin none noSlots [t11_5]
theorem F_ip4_big_eq (g : Call) (a0 : LV) (a1 : LV) : fnEv g c_ip4_big [a0, a1] none = F_ip4_big g a0 a1 := by kernel_rfl

/-- interpreter/sum.Of -/
noncomputable def F_sum_Of (g : Call) (a0 : LV) : Option (LV × Option LV) :=
 (pr.len false a0).bind fun t8_4 =>
 (whileW (fun q6 : List LV × Slots =>
 (pr.bin .lss (getL q6.1 2) t8_4).bind fun t10_7 =>
 condK t10_7 (
 (pr.idxAddr none 1 a0 (getL q6.1 2)).bind fun t11_8 =>
 (pr.load 1 false q6.2 t11_8).bind fun t12_9 =>
 (pr.call g id_sum_add q6.2 [(getL q6.1 0), (getL q6.1 1), t12_9, (LV.int .u8 0)]).bind fun t16_14 =>
 (pr.call g id_sum_fold q6.2 [t16_14]).bind fun t17_15 =>
 (pr.len true t12_9).bind fun t20_19 =>
 (pr.bin .add (getL q6.1 1) t20_19).bind fun t21_20 =>
 (pr.bin .add (getL q6.1 2) (LV.int .i64 1)).bind fun t22_22 =>
 pr.round noSlots .normal [t17_15, t21_20, t22_22] q6.2) (
 pr.round noSlots (.exit 0) [(getL q6.1 0), (getL q6.1 1), (getL q6.1 2)] q6.2)) ([(LV.int .i64 0), (LV.int .i64 0), (LV.int .i64 0)], noSlots)).bind fun r6 =>
 exIf r6.1 (.exit 0) (
 (pr.bin .sub (LV.int .i64 65535) (getL r6.2.1 0)).bind fun t24_25 =>
 pr.fin none r6.2.2 [t24_25]) (none)
theorem F_sum_Of_eq (g : Call) (a0 : LV) : fnEv g c_sum_Of [a0] none = F_sum_Of g a0 := by kernel_rfl

/-- interpreter/ip6.Routed -/
noncomputable def F_ip6_Routed (g : Call) (a0 : LV) : Option (LV × Option LV) :=
 (pr.len false a0).bind fun t6_2 =>
 (whileW (fun q4 : List LV × Slots =>
 (pr.bin .lss (getL q4.1 1) t6_2).bind fun t8_5 =>
 condK t8_5 (
 (pr.idxAddr none 2 a0 (getL q4.1 1)).bind fun t9_6 =>
 (pr.load 2 true q4.2 t9_6).bind fun t10_7 =>
 (pr.alloc (LV.agg [(LV.int .i64 0), (LV.str [])]) 4 q4.2).bind fun t4_8 =>
 (pr.store 2 true t4_8.2 t4_8.1 t10_7).bind fun u9 =>
 (pr.fieldAddr 0 0 t4_8.1).bind fun t11_10 =>
 (pr.load 1 false u9.2 t11_10).bind fun t12_11 =>
 (pr.bin .eql t12_11 (LV.int .i64 43)).bind fun t13_12 =>
 (pr.guard t13_12 true).bind fun b14 =>
 (if b14 = true then pr.fieldAddr 1 1 t4_8.1 else some LV.undef).bind fun t15_14 =>
 (pr.guard t13_12 true).bind fun b15 =>
 (if b15 = true then pr.load 1 false u9.2 t15_14 else some LV.undef).bind fun t16_15 =>
 (pr.guard t13_12 true).bind fun b16 =>
 (if b16 = true then pr.len true t16_15 else some LV.undef).bind fun t17_16 =>
 (pr.guard t13_12 true).bind fun b17 =>
 (if b17 = true then pr.bin .gtr t17_16 (LV.int .i64 1) else some LV.undef).bind fun t18_17 =>
 (pr.pick t13_12 t18_17 (LV.bool false)).bind fun t19_18 =>
 (pr.guard t19_18 true).bind fun b20 =>
 (if b20 = true then pr.fieldAddr 1 1 t4_8.1 else some LV.undef).bind fun t21_20 =>
 (pr.guard t19_18 true).bind fun b21 =>
 (if b21 = true then pr.load 1 false u9.2 t21_20 else some LV.undef).bind fun t22_21 =>
 (pr.guard t19_18 true).bind fun b22 =>
 (if b22 = true then pr.idxStr t22_21 (LV.int .i64 1) else some LV.undef).bind fun t23_22 =>
 (pr.guard t19_18 true).bind fun b23 =>
 (if b23 = true then pr.bin .neq t23_22 (LV.int .u8 0) else some LV.undef).bind fun t24_23 =>
 (pr.pick t19_18 t24_23 (LV.bool false)).bind fun t25_24 =>
 condK t25_24 (
 pr.round noSlots .ret [(LV.bool true), (getL q4.1 1)] u9.2) (
 (pr.bin .add (getL q4.1 1) (LV.int .i64 1)).bind fun t26_26 =>
 pr.round noSlots .normal [(getL q4.1 0), t26_26] u9.2)) (
 pr.round noSlots (.exit 0) [(getL q4.1 0), (getL q4.1 1)] q4.2)) ([(LV.bool false), (LV.int .i64 0)], noSlots)).bind fun r4 =>
 exIf r4.1 (.exit 0) (
 pr.fin none r4.2.2 [(LV.bool false)]) (exIf r4.1 .ret (
 pr.fin none r4.2.2 [(getL r4.2.1 0)]) (none))
theorem F_ip6_Routed_eq (g : Call) (a0 : LV) : fnEv g c_ip6_Routed [a0] none = F_ip6_Routed g a0 := by kernel_rfl

/-- interpreter/ip6.within -/
noncomputable def F_ip6_within (g : Call) (a0 : LV) (a1 : LV) : Option (LV × Option LV) :=
 (pr.bin .geq a0 (LV.int .i64 0)).bind fun t6_2 =>
 (pr.guard t6_2 true).bind fun b4 =>
 (if b4 = true then some a0 else some LV.undef).bind fun t8_4 =>
 (pr.guard t6_2 true).bind fun b5 =>
 (if b5 = true then some a1 else some LV.undef).bind fun t9_5 =>
 (pr.guard t6_2 true).bind fun b6 =>
 (if b6 = true then pr.bin .leq t8_4 t9_5 else some LV.undef).bind fun t10_6 =>
 (pr.pick t6_2 t10_6 (LV.bool false)).bind fun t11_7 =>
 pr.fin none noSlots [t11_7]
theorem F_ip6_within_eq (g : Call) (a0 : LV) (a1 : LV) : fnEv g c_ip6_within [a0, a1] none = F_ip6_within g a0 a1 := by kernel_rfl

/-- interpreter/ip6.kinds -/
noncomputable def F_ip6_kinds (g : Call) (a0 : LV) : Option (LV × Option LV) :=
 (pr.box a0).bind fun t1_0 =>
 (pr.fieldAddr 5 35 t1_0).bind fun t5_2 =>
 (pr.load 1 false noSlots t5_2).bind fun t6_3 =>
 (pr.len false t6_3).bind fun t7_4 =>
 (whileW (fun q6 : List LV × Slots =>
 (pr.bin .lss (getL q6.1 1) t7_4).bind fun t9_7 =>
 condK t9_7 (
 (pr.idxAddr none 2 t6_3 (getL q6.1 1)).bind fun t10_8 =>
 (pr.load 2 true q6.2 t10_8).bind fun t11_9 =>
 (pr.alloc (LV.agg [(LV.int .i64 0), (LV.str [])]) 4 q6.2).bind fun t4_10 =>
 (pr.store 2 true t4_10.2 t4_10.1 t11_9).bind fun u11 =>
 (pr.fieldAddr 0 0 t4_10.1).bind fun t12_12 =>
 (pr.load 1 false u11.2 t12_12).bind fun t13_13 =>
 (pr.call g id_ip6_extends u11.2 [t13_13]).bind fun t14_14 =>
 (pr.un .not t14_14).bind fun t15_15 =>
 condK t15_15 (
 pr.round noSlots .ret [(LV.bool false), (getL q6.1 1)] u11.2) (
 (pr.bin .add (getL q6.1 1) (LV.int .i64 1)).bind fun t16_17 =>
 pr.round noSlots .normal [(getL q6.1 0), t16_17] u11.2)) (
 pr.round noSlots (.exit 0) [(getL q6.1 0), (getL q6.1 1)] q6.2)) ([(LV.bool false), (LV.int .i64 0)], noSlots)).bind fun r6 =>
 exIf r6.1 (.exit 0) (
 (pr.fieldAddr 6 36 t1_0).bind fun t17_19 =>
 (pr.load 1 false r6.2.2 t17_19).bind fun t18_20 =>
 (pr.guard t18_20 false).bind fun b22 =>
 (if b22 = true then pr.fieldAddr 10 40 t1_0 else some LV.undef).bind fun t20_22 =>
 (pr.guard t18_20 false).bind fun b23 =>
 (if b23 = true then pr.load 1 false r6.2.2 t20_22 else some LV.undef).bind fun t21_23 =>
 (pr.guard t18_20 false).bind fun b24 =>
 (if b24 = true then pr.call g id_ip6_extends r6.2.2 [t21_23] else some LV.undef).bind fun t22_24 =>
 (pr.guard t18_20 false).bind fun b25 =>
 (if b25 = true then pr.un .not t22_24 else some LV.undef).bind fun t23_25 =>
 (pr.guard t18_20 false).bind fun b26 =>
 (if b26 = true then some t23_25 else some LV.undef).bind fun t24_26 =>
 (pr.guard t24_26 true).bind fun b27 =>
 (if b27 = true then pr.fieldAddr 10 40 t1_0 else some LV.undef).bind fun t25_27 =>
 (pr.guard t24_26 true).bind fun b28 =>
 (if b28 = true then pr.load 1 false r6.2.2 t25_27 else some LV.undef).bind fun t26_28 =>
 (pr.guard t24_26 true).bind fun b29 =>
 (if b29 = true then pr.bin .neq t26_28 (LV.int .i64 44) else some LV.undef).bind fun t27_29 =>
 (pr.guard t18_20 false).bind fun b30 =>
 (if b30 = true then pr.pick t24_26 t27_29 (LV.bool false) else some LV.undef).bind fun t28_30 =>
 (pr.pick t18_20 (LV.bool true) t28_30).bind fun t29_31 =>
 pr.fin none r6.2.2 [t29_31]) (exIf r6.1 .ret (
 pr.fin none r6.2.2 [(getL r6.2.1 0)]) (none))
theorem F_ip6_kinds_eq (g : Call) (a0 : LV) : fnEv g c_ip6_kinds [a0] none = F_ip6_kinds g a0 := by kernel_rfl

/-- interpreter/ip6.formed -/
noncomputable def F_ip6_formed (g : Call) (a0 : LV) : Option (LV × Option LV) :=
 (pr.box a0).bind fun t1_0 =>
 (pr.fieldAddr 5 35 t1_0).bind fun t5_2 =>
 (pr.load 1 false noSlots t5_2).bind fun t6_3 =>
 (pr.len false t6_3).bind fun t7_4 =>
 (whileW (fun q6 : List LV × Slots =>
 (pr.bin .lss (getL q6.1 1) t7_4).bind fun t9_7 =>
 condK t9_7 (
 (pr.idxAddr none 2 t6_3 (getL q6.1 1)).bind fun t11_9 =>
 (pr.load 2 true q6.2 t11_9).bind fun t12_10 =>
 (pr.alloc (LV.agg [(LV.int .i64 0), (LV.str [])]) 4 q6.2).bind fun t4_11 =>
 (pr.store 2 true t4_11.2 t4_11.1 t12_10).bind fun u13 =>
 (pr.fieldAddr 1 1 t4_11.1).bind fun t13_14 =>
 (pr.load 1 false u13.2 t13_14).bind fun t14_15 =>
 (pr.len true t14_15).bind fun t15_16 =>
 (pr.bin .rem t15_16 (LV.int .i64 8)).bind fun t16_17 =>
 (pr.bin .neq t16_17 (LV.int .i64 6)).bind fun t17_18 =>
 (pr.guard t17_18 false).bind fun b20 =>
 (if b20 = true then pr.fieldAddr 1 1 t4_11.1 else some LV.undef).bind fun t19_20 =>
 (pr.guard t17_18 false).bind fun b21 =>
 (if b21 = true then pr.load 1 false u13.2 t19_20 else some LV.undef).bind fun t20_21 =>
 (pr.guard t17_18 false).bind fun b22 =>
 (if b22 = true then pr.len true t20_21 else some LV.undef).bind fun t21_22 =>
 (pr.guard t17_18 false).bind fun b23 =>
 (if b23 = true then pr.bin .gtr t21_22 (LV.int .i64 2046) else some LV.undef).bind fun t22_23 =>
 (pr.pick t17_18 (LV.bool true) t22_23).bind fun t23_24 =>
 (pr.guard t23_24 false).bind fun b26 =>
 (if b26 = true then pr.fieldAddr 0 0 t4_11.1 else some LV.undef).bind fun t25_26 =>
 (pr.guard t23_24 false).bind fun b27 =>
 (if b27 = true then pr.load 1 false u13.2 t25_26 else some LV.undef).bind fun t26_27 =>
 (pr.guard t23_24 false).bind fun b28 =>
 (if b28 = true then pr.bin .eql t26_27 (LV.int .i64 0) else some LV.undef).bind fun t27_28 =>
 (pr.guard t23_24 false).bind fun b29 =>
 (if b29 = true then some t27_28 else some LV.undef).bind fun t28_29 =>
 (pr.guard t28_29 true).bind fun b30 =>
 (if b30 = true then some (getL q6.1 1) else some LV.undef).bind fun t29_30 =>
 (pr.guard t28_29 true).bind fun b31 =>
 (if b31 = true then pr.bin .gtr t29_30 (LV.int .i64 0) else some LV.undef).bind fun t30_31 =>
 (pr.guard t23_24 false).bind fun b32 =>
 (if b32 = true then pr.pick t28_29 t30_31 (LV.bool false) else some LV.undef).bind fun t31_32 =>
 (pr.pick t23_24 (LV.bool true) t31_32).bind fun t32_33 =>
 condK t32_33 (
 pr.round noSlots .ret [(LV.bool false), (getL q6.1 1)] u13.2) (
 (pr.bin .add (getL q6.1 1) (LV.int .i64 1)).bind fun t33_35 =>
 pr.round noSlots .normal [(getL q6.1 0), t33_35] u13.2)) (
 pr.round noSlots (.exit 0) [(getL q6.1 0), (getL q6.1 1)] q6.2)) ([(LV.bool false), (LV.int .i64 0)], noSlots)).bind fun r6 =>
 exIf r6.1 (.exit 0) (
 (pr.fieldAddr 6 36 t1_0).bind fun t34_37 =>
 (pr.load 1 false r6.2.2 t34_37).bind fun t35_38 =>
 condK t35_38 (
 (pr.load 42 true r6.2.2 t1_0).bind fun t36_39 =>
 (pr.call g id_ip6_pieced r6.2.2 [t36_39]).bind fun t37_40 =>
 pr.fin none r6.2.2 [t37_40]) (
 (pr.fieldAddr 7 37 t1_0).bind fun t38_42 =>
 (pr.load 1 false r6.2.2 t38_42).bind fun t39_43 =>
 (pr.bin .eql t39_43 (LV.int .u32 0)).bind fun t40_44 =>
 (pr.guard t40_44 true).bind fun b46 =>
 (if b46 = true then pr.fieldAddr 8 38 t1_0 else some LV.undef).bind fun t42_46 =>
 (pr.guard t40_44 true).bind fun b47 =>
 (if b47 = true then pr.load 1 false r6.2.2 t42_46 else some LV.undef).bind fun t43_47 =>
 (pr.guard t40_44 true).bind fun b48 =>
 (if b48 = true then pr.bin .eql t43_47 (LV.int .i64 0) else some LV.undef).bind fun t44_48 =>
 (pr.pick t40_44 t44_48 (LV.bool false)).bind fun t45_49 =>
 (pr.guard t45_49 true).bind fun b51 =>
 (if b51 = true then pr.fieldAddr 9 39 t1_0 else some LV.undef).bind fun t47_51 =>
 (pr.guard t45_49 true).bind fun b52 =>
 (if b52 = true then pr.load 1 false r6.2.2 t47_51 else some LV.undef).bind fun t48_52 =>
 (pr.guard t45_49 true).bind fun b53 =>
 (if b53 = true then pr.un .not t48_52 else some LV.undef).bind fun t49_53 =>
 (pr.pick t45_49 t49_53 (LV.bool false)).bind fun t50_54 =>
 pr.fin none r6.2.2 [t50_54])) (exIf r6.1 .ret (
 pr.fin none r6.2.2 [(getL r6.2.1 0)]) (none))
theorem F_ip6_formed_eq (g : Call) (a0 : LV) : fnEv g c_ip6_formed [a0] none = F_ip6_formed g a0 := by kernel_rfl

/-- interpreter/ip6.size -/
noncomputable def F_ip6_size (g : Call) (a0 : LV) : Option (LV × Option LV) :=
 (pr.box a0).bind fun t1_0 =>
 (pr.fieldAddr 11 41 t1_0).bind fun t6_2 =>
 (pr.load 1 false noSlots t6_2).bind fun t7_3 =>
 (pr.len true t7_3).bind fun t8_4 =>
 (pr.fieldAddr 6 36 t1_0).bind fun t9_6 =>
 (pr.load 1 false noSlots t9_6).bind fun t10_7 =>
 condK t10_7 (
 (pr.bin .add t8_4 (LV.int .i64 8)).bind fun t12_9 =>
 (pr.fieldAddr 5 35 t1_0).bind fun t13_11 =>
 (pr.load 1 false noSlots t13_11).bind fun t14_12 =>
 (pr.len false t14_12).bind fun t15_13 =>
 (whileW (fun q15 : List LV × Slots =>
 (pr.bin .lss (getL q15.1 1) t15_13).bind fun t17_16 =>
 condK t17_16 (
 (pr.idxAddr none 2 t14_12 (getL q15.1 1)).bind fun t18_17 =>
 (pr.load 2 true q15.2 t18_17).bind fun t19_18 =>
 (pr.alloc (LV.agg [(LV.int .i64 0), (LV.str [])]) 5 q15.2).bind fun t5_19 =>
 (pr.store 2 true t5_19.2 t5_19.1 t19_18).bind fun u20 =>
 (pr.fieldAddr 1 1 t5_19.1).bind fun t21_22 =>
 (pr.load 1 false u20.2 t21_22).bind fun t22_23 =>
 (pr.len true t22_23).bind fun t23_24 =>
 (pr.bin .add t23_24 (LV.int .i64 2)).bind fun t24_25 =>
 (pr.bin .add (getL q15.1 0) t24_25).bind fun t25_26 =>
 (pr.bin .add (getL q15.1 1) (LV.int .i64 1)).bind fun t26_28 =>
 pr.round noSlots .normal [t25_26, t26_28] u20.2) (
 pr.round noSlots (.exit 0) [(getL q15.1 0), (getL q15.1 1)] q15.2)) ([t12_9, (LV.int .i64 0)], noSlots)).bind fun r15 =>
 exIf r15.1 (.exit 0) (
 pr.fin none r15.2.2 [(getL r15.2.1 0)]) (none)) (
 (pr.fieldAddr 5 35 t1_0).bind fun t13_32 =>
 (pr.load 1 false noSlots t13_32).bind fun t14_33 =>
 (pr.len false t14_33).bind fun t15_34 =>
 (whileW (fun q36 : List LV × Slots =>
 (pr.bin .lss (getL q36.1 1) t15_34).bind fun t17_37 =>
 condK t17_37 (
 (pr.idxAddr none 2 t14_33 (getL q36.1 1)).bind fun t18_38 =>
 (pr.load 2 true q36.2 t18_38).bind fun t19_39 =>
 (pr.alloc (LV.agg [(LV.int .i64 0), (LV.str [])]) 5 q36.2).bind fun t5_40 =>
 (pr.store 2 true t5_40.2 t5_40.1 t19_39).bind fun u41 =>
 (pr.fieldAddr 1 1 t5_40.1).bind fun t21_43 =>
 (pr.load 1 false u41.2 t21_43).bind fun t22_44 =>
 (pr.len true t22_44).bind fun t23_45 =>
 (pr.bin .add t23_45 (LV.int .i64 2)).bind fun t24_46 =>
 (pr.bin .add (getL q36.1 0) t24_46).bind fun t25_47 =>
 (pr.bin .add (getL q36.1 1) (LV.int .i64 1)).bind fun t26_49 =>
 pr.round noSlots .normal [t25_47, t26_49] u41.2) (
 pr.round noSlots (.exit 0) [(getL q36.1 0), (getL q36.1 1)] q36.2)) ([t8_4, (LV.int .i64 0)], noSlots)).bind fun r36 =>
 exIf r36.1 (.exit 0) (
 pr.fin none r36.2.2 [(getL r36.2.1 0)]) (none))
theorem F_ip6_size_eq (g : Call) (a0 : LV) : fnEv g c_ip6_size [a0] none = F_ip6_size g a0 := by kernel_rfl

/-- interpreter/num.Big -/
noncomputable def F_num_Big (g : Call) (a0 : LV) (a1 : LV) : Option (LV × Option LV) :=
 (pr.bin .neq a1 (LV.int .i64 1)).bind fun t10_3 =>
 (pr.guard t10_3 true).bind fun b5 =>
 (if b5 = true then some a1 else some LV.undef).bind fun t12_5 =>
 (pr.guard t10_3 true).bind fun b6 =>
 (if b6 = true then pr.bin .neq t12_5 (LV.int .i64 2) else some LV.undef).bind fun t13_6 =>
 (pr.pick t10_3 t13_6 (LV.bool false)).bind fun t14_7 =>
 (pr.guard t14_7 true).bind fun b9 =>
 (if b9 = true then some a1 else some LV.undef).bind fun t16_9 =>
 (pr.guard t14_7 true).bind fun b10 =>
 (if b10 = true then pr.bin .neq t16_9 (LV.int .i64 4) else some LV.undef).bind fun t17_10 =>
 (pr.pick t14_7 t17_10 (LV.bool false)).bind fun t18_11 =>
 condK t18_11 (
 (pr.parts (LV.agg [(LV.int .i64 0), (LV.int .i64 0)]) [(0, (LV.int .i64 1))]).bind fun t19_13 =>
 (pr.box t19_13).bind fun t20_14 =>
 (pr.iface ty_ptr_num_Fault t20_14).bind fun t21_15 =>
 pr.fin none noSlots [(LV.str []), t21_15]) (
 (pr.bin .lss a0 (LV.int .i64 0)).bind fun t24_19 =>
 (pr.guard t24_19 false).bind fun b21 =>
 (if b21 = true then some a0 else some LV.undef).bind fun t26_21 =>
 (pr.guard t24_19 false).bind fun b22 =>
 (if b22 = true then some a1 else some LV.undef).bind fun t27_22 =>
 (pr.guard t24_19 false).bind fun b23 =>
 (if b23 = true then pr.bin .mul (LV.int .i64 8) t27_22 else some LV.undef).bind fun t28_23 =>
 (pr.guard t24_19 false).bind fun b24 =>
 (if b24 = true then pr.bin .shl (LV.int .i64 1) t28_23 else some LV.undef).bind fun t29_24 =>
 (pr.guard t24_19 false).bind fun b25 =>
 (if b25 = true then pr.bin .geq t26_21 t29_24 else some LV.undef).bind fun t30_25 =>
 (pr.pick t24_19 (LV.bool true) t30_25).bind fun t31_26 =>
 condK t31_26 (
 (pr.parts (LV.agg [(LV.int .i64 0), (LV.int .i64 0)]) [(0, (LV.int .i64 13))]).bind fun t32_28 =>
 (pr.box t32_28).bind fun t33_29 =>
 (pr.iface ty_ptr_num_Fault t33_29).bind fun t34_30 =>
 pr.fin none noSlots [(LV.str []), t34_30]) (
 (pr.mkSl 36 noSlots a1 a1).bind fun t36_34 =>
 (whileW (fun q38 : List LV × Slots =>
 (pr.bin .lss (getL q38.1 0) a1).bind fun t39_39 =>
 condK t39_39 (
 (pr.bin .sub a1 (LV.int .i64 1)).bind fun t45_46 =>
 (pr.bin .sub t45_46 (getL q38.1 0)).bind fun t47_48 =>
 (pr.bin .mul (LV.int .i64 8) t47_48).bind fun t48_49 =>
 (pr.bin .shr a0 t48_49).bind fun t49_50 =>
 (pr.conv .u8 t49_50).bind fun t50_51 =>
 (pr.idxAddr none 1 t36_34.1 (getL q38.1 0)).bind fun t51_52 =>
 (pr.store 1 false q38.2 t51_52 t50_51).bind fun u53 =>
 (pr.bin .add (getL q38.1 0) (LV.int .i64 1)).bind fun t52_54 =>
 pr.round t36_34.2 .normal [t52_54] u53.2) (
 pr.round t36_34.2 (.exit 1) [(getL q38.1 0)] q38.2)) ([(LV.int .i64 0)], t36_34.2)).bind fun r38 =>
 exIf r38.1 (.exit 1) (
 (pr.b2s r38.2.2 t36_34.1).bind fun t54_57 =>
 pr.fin none r38.2.2 [t54_57, LV.nili]) (none)))
theorem F_num_Big_eq (g : Call) (a0 : LV) (a1 : LV) : fnEv g c_num_Big [a0, a1] none = F_num_Big g a0 a1 := by kernel_rfl

/-- interpreter/ip4.byteful -/
noncomputable def F_ip4_byteful (g : Call) (a0 : LV) : Option (LV × Option LV) :=
 (pr.len false a0).bind fun t6_2 =>
 (whileW (fun q4 : List LV × Slots =>
 (pr.bin .lss (getL q4.1 1) t6_2).bind fun t8_5 =>
 condK t8_5 (
 (pr.idxAddr none 1 a0 (getL q4.1 1)).bind fun t9_6 =>
 (pr.load 1 false q4.2 t9_6).bind fun t10_7 =>
 (pr.bin .lss t10_7 (LV.int .i64 0)).bind fun t12_10 =>
 (pr.guard t12_10 false).bind fun b12 =>
 (if b12 = true then some t10_7 else some LV.undef).bind fun t14_12 =>
 (pr.guard t12_10 false).bind fun b13 =>
 (if b13 = true then pr.bin .gtr t14_12 (LV.int .i64 255) else some LV.undef).bind fun t15_13 =>
 (pr.pick t12_10 (LV.bool true) t15_13).bind fun t16_14 =>
 condK t16_14 (
 pr.round noSlots .ret [(LV.bool false), (getL q4.1 1)] q4.2) (
 (pr.bin .add (getL q4.1 1) (LV.int .i64 1)).bind fun t17_16 =>
 pr.round noSlots .normal [(getL q4.1 0), t17_16] q4.2)) (
 pr.round noSlots (.exit 0) [(getL q4.1 0), (getL q4.1 1)] q4.2)) ([(LV.bool false), (LV.int .i64 0)], noSlots)).bind fun r4 =>
 exIf r4.1 (.exit 0) (
 pr.fin none r4.2.2 [(LV.bool true)]) (exIf r4.1 .ret (
 pr.fin none r4.2.2 [(getL r4.2.1 0)]) (none))
theorem F_ip4_byteful_eq (g : Call) (a0 : LV) : fnEv g c_ip4_byteful [a0] none = F_ip4_byteful g a0 := by kernel_rfl

/-- (*interpreter/num.Reader).number -/
noncomputable def F_num_Reader_number (g : Call) (h : LV) (a1 : LV) : Option (LV × Option LV) :=
 (pr.callRw g id_num_Reader_Text (upd noSlots 0 (.obj 0 h)) [(LV.ptr 0 0 [] 0), a1]).bind fun t13_4 =>
 (pr.extract t13_4.1 0).bind fun t14_6 =>
 (pr.extract t13_4.1 1).bind fun t15_7 =>
 (pr.len true t14_6).bind fun t17_12 =>
 (whileW (fun q14 : List LV × Slots =>
 (pr.bin .lss (getL q14.1 1) t17_12).bind fun t19_15 =>
 condK t19_15 (
 (pr.bin .shl (getL q14.1 0) (LV.int .u64 8)).bind fun t22_19 =>
 (pr.idxStr t14_6 (getL q14.1 1)).bind fun t25_22 =>
 (pr.conv .i64 t25_22).bind fun t26_23 =>
 (pr.bin .or t22_19 t26_23).bind fun t27_24 =>
 (pr.bin .add (getL q14.1 1) (LV.int .i64 1)).bind fun t28_26 =>
 pr.round t13_4.2 .normal [t27_24, t28_26] q14.2) (
 pr.round t13_4.2 (.exit 0) [(getL q14.1 0), (getL q14.1 1)] q14.2)) ([(LV.int .i64 0), (LV.int .i64 0)], t13_4.2)).bind fun r14 =>
 exIf r14.1 (.exit 0) (
 pr.fin (some h) r14.2.2 [(getL r14.2.1 0), t15_7]) (none)
theorem F_num_Reader_number_eq (g : Call) (h : LV) (a1 : LV) : fnEv g c_num_Reader_number [(LV.ptr 0 0 [] 0), a1] (some h) = F_num_Reader_number g h a1 := by kernel_rfl

/-- interpreter/ip6.extends -/
noncomputable def F_ip6_extends (g : Call) (a0 : LV) : Option (LV × Option LV) :=
 (pr.bin .eql a0 (LV.int .i64 0)).bind fun t4_2 =>
 (pr.guard t4_2 false).bind fun b4 =>
 (if b4 = true then some a0 else some LV.undef).bind fun t6_4 =>
 (pr.guard t4_2 false).bind fun b5 =>
 (if b5 = true then pr.bin .eql t6_4 (LV.int .i64 43) else some LV.undef).bind fun t7_5 =>
 (pr.pick t4_2 (LV.bool true) t7_5).bind fun t8_6 =>
 (pr.guard t8_6 false).bind fun b8 =>
 (if b8 = true then some a0 else some LV.undef).bind fun t10_8 =>
 (pr.guard t8_6 false).bind fun b9 =>
 (if b9 = true then pr.bin .eql t10_8 (LV.int .i64 60) else some LV.undef).bind fun t11_9 =>
 (pr.pick t8_6 (LV.bool true) t11_9).bind fun t12_10 =>
 pr.fin none noSlots [t12_10]
theorem F_ip6_extends_eq (g : Call) (a0 : LV) : fnEv g c_ip6_extends [a0] none = F_ip6_extends g a0 := by kernel_rfl

/-- interpreter/sum.fold -/
noncomputable def F_sum_fold (g : Call) (a0 : LV) : Option (LV × Option LV) :=
 (whileW (fun q1 : List LV × Slots =>
 (pr.bin .gtr (getL q1.1 0) (LV.int .i64 65535)).bind fun t4_3 =>
 condK t4_3 (
 (pr.bin .shr (getL q1.1 0) (LV.int .u64 16)).bind fun t6_5 =>
 (pr.bin .and (getL q1.1 0) (LV.int .i64 65535)).bind fun t8_7 =>
 (pr.bin .add t6_5 t8_7).bind fun t9_8 =>
 pr.round noSlots .normal [t9_8] q1.2) (
 pr.round noSlots (.exit 0) [(getL q1.1 0)] q1.2)) ([a0], noSlots)).bind fun r1 =>
 exIf r1.1 (.exit 0) (
 pr.fin none r1.2.2 [(getL r1.2.1 0)]) (none)
theorem F_sum_fold_eq (g : Call) (a0 : LV) : fnEv g c_sum_fold [a0] none = F_sum_fold g a0 := by kernel_rfl

/-- interpreter/sum.add -/
noncomputable def F_sum_add (g : Call) (a0 : LV) (a1 : LV) (a2 : LV) (a3 : LV) : Option (LV × Option LV) :=
 (pr.len true a2).bind fun t12_2 =>
 (whileW (fun q4 : List LV × Slots =>
 (pr.bin .lss (getL q4.1 1) t12_2).bind fun t14_5 =>
 condK t14_5 (
 (pr.idxStr a2 (getL q4.1 1)).bind fun t18_10 =>
 (pr.bin .xor t18_10 a3).bind fun t20_12 =>
 (pr.conv .i64 t20_12).bind fun t21_13 =>
 (pr.bin .add a1 (getL q4.1 1)).bind fun t24_17 =>
 (pr.bin .rem t24_17 (LV.int .i64 2)).bind fun t25_18 =>
 (pr.bin .eql t25_18 (LV.int .i64 0)).bind fun t26_19 =>
 condK t26_19 (
 (pr.bin .shl t21_13 (LV.int .u64 8)).bind fun t28_21 =>
 (pr.bin .add (getL q4.1 0) t28_21).bind fun t31_25 =>
 (pr.bin .add (getL q4.1 1) (LV.int .i64 1)).bind fun t32_27 =>
 pr.round noSlots .normal [t31_25, t32_27] q4.2) (
 (pr.bin .add (getL q4.1 0) t21_13).bind fun t31_31 =>
 (pr.bin .add (getL q4.1 1) (LV.int .i64 1)).bind fun t32_33 =>
 pr.round noSlots .normal [t31_31, t32_33] q4.2)) (
 pr.round noSlots (.exit 0) [(getL q4.1 0), (getL q4.1 1)] q4.2)) ([a0, (LV.int .i64 0)], noSlots)).bind fun r4 =>
 exIf r4.1 (.exit 0) (
 pr.fin none r4.2.2 [(getL r4.2.1 0)]) (none)
theorem F_sum_add_eq (g : Call) (a0 : LV) (a1 : LV) (a2 : LV) (a3 : LV) : fnEv g c_sum_add [a0, a1, a2, a3] none = F_sum_add g a0 a1 a2 a3 := by kernel_rfl

/-- (*interpreter/num.Reader).Text -/
noncomputable def F_num_Reader_Text (g : Call) (h : LV) (a1 : LV) : Option (LV × Option LV) :=
 (pr.eqNil 0 false (LV.ptr 0 0 [] 0)).bind fun t34_3 =>
 condK t34_3 (
 (pr.parts (LV.agg [(LV.int .i64 0), (LV.int .i64 0)]) [(0, (LV.int .i64 2))]).bind fun t35_5 =>
 (pr.box t35_5).bind fun t36_6 =>
 (pr.iface ty_ptr_num_Fault t36_6).bind fun t37_7 =>
 pr.fin (some h) (upd noSlots 0 (.obj 0 h)) [(LV.str []), t37_7]) (
 (pr.nilCheck (LV.ptr 0 0 [] 0)).bind fun t40_11 =>
 (pr.fieldAddr 2 2 t40_11).bind fun t41_12 =>
 (pr.load 1 false (upd noSlots 0 (.obj 0 h)) t41_12).bind fun t42_13 =>
 (pr.eqNil 0 true t42_13).bind fun t43_14 =>
 condK t43_14 (
 (pr.nilCheck (LV.ptr 0 0 [] 0)).bind fun t79_17 =>
 (pr.fieldAddr 2 2 t79_17).bind fun t80_18 =>
 (pr.load 1 false (upd noSlots 0 (.obj 0 h)) t80_18).bind fun t81_19 =>
 (pr.nilCheck t81_19).bind fun t82_20 =>
 (pr.load 2 true (upd noSlots 0 (.obj 0 h)) t82_20).bind fun t83_21 =>
 (pr.alloc (LV.agg [(LV.int .i64 0), (LV.int .i64 0)]) 7 (upd noSlots 0 (.obj 0 h))).bind fun t7_22 =>
 (pr.store 2 true t7_22.2 t7_22.1 t83_21).bind fun u23 =>
 (pr.iface ty_ptr_num_Fault t7_22.1).bind fun t84_24 =>
 pr.fin (some h) u23.2 [(LV.str []), t84_24]) (
 (pr.bin .lss a1 (LV.int .i64 0)).bind fun t46_28 =>
 condK t46_28 (
 (pr.nilCheck (LV.ptr 0 0 [] 0)).bind fun t49_32 =>
 (pr.fieldAddr 1 1 t49_32).bind fun t50_33 =>
 (pr.load 1 false (upd noSlots 0 (.obj 0 h)) t50_33).bind fun t51_34 =>
 (pr.parts (LV.agg [(LV.int .i64 0), (LV.int .i64 0)]) [(0, (LV.int .i64 1)), (1, t51_34)]).bind fun t52_35 =>
 (pr.box t52_35).bind fun t53_36 =>
 (pr.nilCheck (LV.ptr 0 0 [] 0)).bind fun t54_37 =>
 (pr.fieldAddr 2 2 t54_37).bind fun t55_38 =>
 (pr.store 1 false (upd noSlots 0 (.obj 0 h)) t55_38 t53_36).bind fun u39 =>
 (pr.nilCheck (LV.ptr 0 0 [] 0)).bind fun t79_41 =>
 (pr.fieldAddr 2 2 t79_41).bind fun t80_42 =>
 (pr.load 1 false u39.2 t80_42).bind fun t81_43 =>
 (pr.nilCheck t81_43).bind fun t82_44 =>
 (pr.load 2 true u39.2 t82_44).bind fun t83_45 =>
 (pr.alloc (LV.agg [(LV.int .i64 0), (LV.int .i64 0)]) 7 u39.2).bind fun t7_46 =>
 (pr.store 2 true t7_46.2 t7_46.1 t83_45).bind fun u47 =>
 (pr.iface ty_ptr_num_Fault t7_46.1).bind fun t84_48 =>
 pr.fin (some h) u47.2 [(LV.str []), t84_48]) (
 (pr.nilCheck (LV.ptr 0 0 [] 0)).bind fun t59_53 =>
 (pr.fieldAddr 0 0 t59_53).bind fun t60_54 =>
 (pr.load 1 false (upd noSlots 0 (.obj 0 h)) t60_54).bind fun t61_55 =>
 (pr.len true t61_55).bind fun t62_56 =>
 (pr.nilCheck (LV.ptr 0 0 [] 0)).bind fun t64_58 =>
 (pr.fieldAddr 1 1 t64_58).bind fun t65_59 =>
 (pr.load 1 false (upd noSlots 0 (.obj 0 h)) t65_59).bind fun t66_60 =>
 (pr.bin .sub t62_56 t66_60).bind fun t67_61 =>
 (pr.bin .gtr a1 t67_61).bind fun t68_62 =>
 condK t68_62 (
 (pr.nilCheck (LV.ptr 0 0 [] 0)).bind fun t71_66 =>
 (pr.fieldAddr 1 1 t71_66).bind fun t72_67 =>
 (pr.load 1 false (upd noSlots 0 (.obj 0 h)) t72_67).bind fun t73_68 =>
 (pr.parts (LV.agg [(LV.int .i64 0), (LV.int .i64 0)]) [(0, (LV.int .i64 7)), (1, t73_68)]).bind fun t74_69 =>
 (pr.box t74_69).bind fun t75_70 =>
 (pr.nilCheck (LV.ptr 0 0 [] 0)).bind fun t76_71 =>
 (pr.fieldAddr 2 2 t76_71).bind fun t77_72 =>
 (pr.store 1 false (upd noSlots 0 (.obj 0 h)) t77_72 t75_70).bind fun u73 =>
 (pr.nilCheck (LV.ptr 0 0 [] 0)).bind fun t79_75 =>
 (pr.fieldAddr 2 2 t79_75).bind fun t80_76 =>
 (pr.load 1 false u73.2 t80_76).bind fun t81_77 =>
 (pr.nilCheck t81_77).bind fun t82_78 =>
 (pr.load 2 true u73.2 t82_78).bind fun t83_79 =>
 (pr.alloc (LV.agg [(LV.int .i64 0), (LV.int .i64 0)]) 7 u73.2).bind fun t7_80 =>
 (pr.store 2 true t7_80.2 t7_80.1 t83_79).bind fun u81 =>
 (pr.iface ty_ptr_num_Fault t7_80.1).bind fun t84_82 =>
 pr.fin (some h) u81.2 [(LV.str []), t84_82]) (
 (pr.nilCheck (LV.ptr 0 0 [] 0)).bind fun t9_86 =>
 (pr.fieldAddr 0 0 t9_86).bind fun t10_87 =>
 (pr.load 1 false (upd noSlots 0 (.obj 0 h)) t10_87).bind fun t11_88 =>
 (pr.nilCheck (LV.ptr 0 0 [] 0)).bind fun t13_90 =>
 (pr.fieldAddr 1 1 t13_90).bind fun t14_91 =>
 (pr.load 1 false (upd noSlots 0 (.obj 0 h)) t14_91).bind fun t15_92 =>
 (pr.nilCheck (LV.ptr 0 0 [] 0)).bind fun t17_94 =>
 (pr.fieldAddr 1 1 t17_94).bind fun t18_95 =>
 (pr.load 1 false (upd noSlots 0 (.obj 0 h)) t18_95).bind fun t19_96 =>
 (pr.bin .add t19_96 a1).bind fun t21_98 =>
 (pr.slc 0 t11_88 (some t15_92) (some t21_98)).bind fun t22_99 =>
 (pr.nilCheck (LV.ptr 0 0 [] 0)).bind fun t24_102 =>
 (pr.fieldAddr 1 1 t24_102).bind fun t25_103 =>
 (pr.load 1 false (upd noSlots 0 (.obj 0 h)) t25_103).bind fun t26_104 =>
 (pr.bin .add t26_104 a1).bind fun t28_106 =>
 (pr.nilCheck (LV.ptr 0 0 [] 0)).bind fun t29_107 =>
 (pr.fieldAddr 1 1 t29_107).bind fun t30_108 =>
 (pr.store 1 false (upd noSlots 0 (.obj 0 h)) t30_108 t28_106).bind fun u109 =>
 pr.fin (some h) u109.2 [t22_99, LV.nili]))))
theorem F_num_Reader_Text_eq (g : Call) (h : LV) (a1 : LV) : fnEv g c_num_Reader_Text [(LV.ptr 0 0 [] 0), a1] (some h) = F_num_Reader_Text g h a1 := by kernel_rfl


end Go.Ev
