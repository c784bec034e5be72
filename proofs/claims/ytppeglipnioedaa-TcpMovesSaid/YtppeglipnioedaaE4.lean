/- Part 4 of a proof: what the functions yield. It stands by itself; no condition. -/
import Derived.Test.YtppeglipnioedaaE3
import Derived.KernelRfl
import Derived.Test.YtppeglipnioedaaE2
/- The functions, in plain Lean. -/
namespace Go.Ev
set_option linter.unusedVariables false
set_option maxRecDepth 100000
/-- interpreter/interpreterlaw05.UdpWrites -/
noncomputable def F_interpreterlaw05_UdpWrites (g : Call) (a0 : LV) (a1 : LV) : Option (LV × Option LV) :=
 (pr.box a0).bind fun t2_0 =>
 (pr.call g id_interpreterlaw05_awake noSlots []).bind fun t9_2 =>
 (pr.un .not t9_2).bind fun t10_3 =>
 condK t10_3 (
 pr.fin none noSlots [(LV.bool false)]) (
 (pr.fieldAddr 3 3 t2_0).bind fun t11_5 =>
 (pr.load 1 false noSlots t11_5).bind fun t12_6 =>
 (pr.len true t12_6).bind fun t13_7 =>
 (pr.bin .gtr t13_7 (LV.int .i64 70000)).bind fun t14_8 =>
 (pr.guard t14_8 false).bind fun b10 =>
 (if b10 = true then some a1 else some LV.undef).bind fun t16_10 =>
 (pr.guard t14_8 false).bind fun b11 =>
 (if b11 = true then pr.len true t16_10 else some LV.undef).bind fun t17_11 =>
 (pr.guard t14_8 false).bind fun b12 =>
 (if b12 = true then pr.bin .gtr t17_11 (LV.int .i64 1000) else some LV.undef).bind fun t18_12 =>
 (pr.pick t14_8 (LV.bool true) t18_12).bind fun t19_13 =>
 condK t19_13 (
 pr.fin none noSlots [(LV.bool true)]) (
 (pr.load 4 true noSlots t2_0).bind fun t21_15 =>
 (pr.call g id_udp_Bytes noSlots [t21_15, a1]).bind fun t23_17 =>
 (pr.extract t23_17 0).bind fun t24_19 =>
 (pr.extract t23_17 1).bind fun t25_20 =>
 (pr.load 4 true noSlots t2_0).bind fun t27_23 =>
 (pr.call g id_interpreterref05_Bytes noSlots [t27_23, a1]).bind fun t29_25 =>
 (pr.extract t29_25 0).bind fun t30_27 =>
 (pr.extract t29_25 1).bind fun t31_28 =>
 (pr.bin .eql t24_19 t30_27).bind fun t34_33 =>
 (pr.guard t34_33 true).bind fun b35 =>
 (if b35 = true then some t25_20 else some LV.undef).bind fun t36_35 =>
 (pr.guard t34_33 true).bind fun b36 =>
 (if b36 = true then some t31_28 else some LV.undef).bind fun t37_36 =>
 (pr.guard t34_33 true).bind fun b37 =>
 (if b37 = true then pr.call g id_interpreterlaw05_same noSlots [t36_35, t37_36] else some LV.undef).bind fun t38_37 =>
 (pr.pick t34_33 t38_37 (LV.bool false)).bind fun t39_38 =>
 pr.fin none noSlots [t39_38]))
theorem F_interpreterlaw05_UdpWrites_eq (g : Call) (a0 : LV) (a1 : LV) : fnEv g c_interpreterlaw05_UdpWrites [a0, a1] none = F_interpreterlaw05_UdpWrites g a0 a1 := by kernel_rfl

/-- interpreter/interpreterlaw05.UdpReads -/
noncomputable def F_interpreterlaw05_UdpReads (g : Call) (a0 : LV) (a1 : LV) : Option (LV × Option LV) :=
 (pr.call g id_interpreterlaw05_awake noSlots []).bind fun t9_1 =>
 (pr.un .not t9_1).bind fun t10_2 =>
 condK t10_2 (
 pr.fin none noSlots [(LV.bool false)]) (
 (pr.len true a0).bind fun t12_5 =>
 (pr.bin .gtr t12_5 (LV.int .i64 70000)).bind fun t13_6 =>
 (pr.guard t13_6 false).bind fun b8 =>
 (if b8 = true then some a1 else some LV.undef).bind fun t15_8 =>
 (pr.guard t13_6 false).bind fun b9 =>
 (if b9 = true then pr.len true t15_8 else some LV.undef).bind fun t16_9 =>
 (pr.guard t13_6 false).bind fun b10 =>
 (if b10 = true then pr.bin .gtr t16_9 (LV.int .i64 1000) else some LV.undef).bind fun t17_10 =>
 (pr.pick t13_6 (LV.bool true) t17_10).bind fun t18_11 =>
 condK t18_11 (
 pr.fin none noSlots [(LV.bool true)]) (
 (pr.call g id_udp_Parse noSlots [a0]).bind fun t21_14 =>
 (pr.extract t21_14 0).bind fun t22_16 =>
 (pr.extract t21_14 1).bind fun t23_17 =>
 (pr.alloc (LV.agg [(LV.int .i64 0), (LV.int .i64 0), (LV.int .i64 0), (LV.str [])]) 5 noSlots).bind fun t5_18 =>
 (pr.store 4 true t5_18.2 t5_18.1 t22_16).bind fun u19 =>
 (pr.call g id_interpreterref05_Parse u19.2 [a0]).bind fun t26_22 =>
 (pr.extract t26_22 0).bind fun t27_24 =>
 (pr.extract t26_22 1).bind fun t28_25 =>
 (pr.alloc (LV.agg [(LV.int .i64 0), (LV.int .i64 0), (LV.int .i64 0), (LV.str [])]) 7 u19.2).bind fun t7_26 =>
 (pr.store 4 true t7_26.2 t7_26.1 t27_24).bind fun u27 =>
 (pr.load 4 true u27.2 t5_18.1).bind fun t29_29 =>
 (pr.load 4 true u27.2 t7_26.1).bind fun t30_30 =>
 (pr.eqS (Sh.agg [(Sh.int .i64), (Sh.int .i64), (Sh.int .i64), Sh.str]) false t29_29 t30_30).bind fun t31_31 =>
 (pr.guard t31_31 true).bind fun b33 =>
 (if b33 = true then some t23_17 else some LV.undef).bind fun t33_33 =>
 (pr.guard t31_31 true).bind fun b34 =>
 (if b34 = true then some t28_25 else some LV.undef).bind fun t34_34 =>
 (pr.guard t31_31 true).bind fun b35 =>
 (if b35 = true then pr.call g id_interpreterlaw05_same u27.2 [t33_33, t34_34] else some LV.undef).bind fun t35_35 =>
 (pr.pick t31_31 t35_35 (LV.bool false)).bind fun t36_36 =>
 (pr.guard t36_36 true).bind fun b38 =>
 (if b38 = true then some a0 else some LV.undef).bind fun t38_38 =>
 (pr.guard t36_36 true).bind fun b39 =>
 (if b39 = true then some a1 else some LV.undef).bind fun t39_39 =>
 (pr.guard t36_36 true).bind fun b40 =>
 (if b40 = true then pr.call g id_udp_Check u27.2 [t38_38, t39_39] else some LV.undef).bind fun t40_40 =>
 (pr.guard t36_36 true).bind fun b41 =>
 (if b41 = true then some a0 else some LV.undef).bind fun t41_41 =>
 (pr.guard t36_36 true).bind fun b42 =>
 (if b42 = true then some a1 else some LV.undef).bind fun t42_42 =>
 (pr.guard t36_36 true).bind fun b43 =>
 (if b43 = true then pr.call g id_interpreterref05_Check u27.2 [t41_41, t42_42] else some LV.undef).bind fun t43_43 =>
 (pr.guard t36_36 true).bind fun b44 =>
 (if b44 = true then pr.call g id_interpreterlaw05_same u27.2 [t40_40, t43_43] else some LV.undef).bind fun t44_44 =>
 (pr.pick t36_36 t44_44 (LV.bool false)).bind fun t45_45 =>
 pr.fin none u27.2 [t45_45]))
theorem F_interpreterlaw05_UdpReads_eq (g : Call) (a0 : LV) (a1 : LV) : fnEv g c_interpreterlaw05_UdpReads [a0, a1] none = F_interpreterlaw05_UdpReads g a0 a1 := by kernel_rfl

/-- interpreter/interpreterlaw05.UdpBack -/
noncomputable def F_interpreterlaw05_UdpBack (g : Call) (a0 : LV) (a1 : LV) (a2 : LV) (a3 : LV) : Option (LV × Option LV) :=
 (pr.box a0).bind fun t4_0 =>
 (pr.call g id_interpreterlaw05_awake noSlots []).bind fun t16_2 =>
 (pr.un .not t16_2).bind fun t17_3 =>
 condK t17_3 (
 pr.fin none noSlots [(LV.bool false)]) (
 (pr.fieldAddr 3 3 t4_0).bind fun t18_5 =>
 (pr.load 1 false noSlots t18_5).bind fun t19_6 =>
 (pr.len true t19_6).bind fun t20_7 =>
 (pr.bin .gtr t20_7 (LV.int .i64 70000)).bind fun t21_8 =>
 (pr.guard t21_8 false).bind fun b10 =>
 (if b10 = true then some a1 else some LV.undef).bind fun t23_10 =>
 (pr.guard t21_8 false).bind fun b11 =>
 (if b11 = true then pr.len true t23_10 else some LV.undef).bind fun t24_11 =>
 (pr.guard t21_8 false).bind fun b12 =>
 (if b12 = true then pr.bin .gtr t24_11 (LV.int .i64 1000) else some LV.undef).bind fun t25_12 =>
 (pr.pick t21_8 (LV.bool true) t25_12).bind fun t26_13 =>
 condK t26_13 (
 pr.fin none noSlots [(LV.bool true)]) (
 (pr.len true a1).bind fun t29_17 =>
 (pr.bin .quo t29_17 (LV.int .i64 2)).bind fun t30_18 =>
 (pr.bin .mul t30_18 (LV.int .i64 2)).bind fun t31_19 =>
 (pr.slc 0 a1 none (some t31_19)).bind fun t32_20 =>
 (pr.load 4 true noSlots t4_0).bind fun t34_22 =>
 (pr.call g id_udp_Bytes noSlots [t34_22, t32_20]).bind fun t36_24 =>
 (pr.extract t36_24 0).bind fun t37_26 =>
 (pr.extract t36_24 1).bind fun t38_27 =>
 (pr.eqNil 1 true t38_27).bind fun t40_31 =>
 condK t40_31 (
 (pr.bin .eql t37_26 (LV.str [])).bind fun t42_33 =>
 pr.fin none noSlots [t42_33]) (
 (pr.call g id_udp_Parse noSlots [t37_26]).bind fun t45_36 =>
 (pr.extract t45_36 0).bind fun t46_38 =>
 (pr.extract t45_36 1).bind fun t47_39 =>
 (pr.alloc (LV.agg [(LV.int .i64 0), (LV.int .i64 0), (LV.int .i64 0), (LV.str [])]) 11 noSlots).bind fun t11_40 =>
 (pr.store 4 true t11_40.2 t11_40.1 t46_38).bind fun u41 =>
 (pr.eqNil 1 true t47_39).bind fun t49_44 =>
 (pr.guard t49_44 false).bind fun b46 =>
 (if b46 = true then pr.fieldAddr 0 0 t11_40.1 else some LV.undef).bind fun t51_46 =>
 (pr.guard t49_44 false).bind fun b47 =>
 (if b47 = true then pr.load 1 false u41.2 t51_46 else some LV.undef).bind fun t52_47 =>
 (pr.guard t49_44 false).bind fun b48 =>
 (if b48 = true then pr.fieldAddr 0 0 t4_0 else some LV.undef).bind fun t53_48 =>
 (pr.guard t49_44 false).bind fun b49 =>
 (if b49 = true then pr.load 1 false u41.2 t53_48 else some LV.undef).bind fun t54_49 =>
 (pr.guard t49_44 false).bind fun b50 =>
 (if b50 = true then pr.bin .neq t52_47 t54_49 else some LV.undef).bind fun t55_50 =>
 (pr.pick t49_44 (LV.bool true) t55_50).bind fun t56_51 =>
 (pr.guard t56_51 false).bind fun b53 =>
 (if b53 = true then pr.fieldAddr 1 1 t11_40.1 else some LV.undef).bind fun t58_53 =>
 (pr.guard t56_51 false).bind fun b54 =>
 (if b54 = true then pr.load 1 false u41.2 t58_53 else some LV.undef).bind fun t59_54 =>
 (pr.guard t56_51 false).bind fun b55 =>
 (if b55 = true then pr.fieldAddr 1 1 t4_0 else some LV.undef).bind fun t60_55 =>
 (pr.guard t56_51 false).bind fun b56 =>
 (if b56 = true then pr.load 1 false u41.2 t60_55 else some LV.undef).bind fun t61_56 =>
 (pr.guard t56_51 false).bind fun b57 =>
 (if b57 = true then pr.bin .neq t59_54 t61_56 else some LV.undef).bind fun t62_57 =>
 (pr.pick t56_51 (LV.bool true) t62_57).bind fun t63_58 =>
 (pr.guard t63_58 false).bind fun b60 =>
 (if b60 = true then pr.fieldAddr 3 3 t11_40.1 else some LV.undef).bind fun t65_60 =>
 (pr.guard t63_58 false).bind fun b61 =>
 (if b61 = true then pr.load 1 false u41.2 t65_60 else some LV.undef).bind fun t66_61 =>
 (pr.guard t63_58 false).bind fun b62 =>
 (if b62 = true then pr.fieldAddr 3 3 t4_0 else some LV.undef).bind fun t67_62 =>
 (pr.guard t63_58 false).bind fun b63 =>
 (if b63 = true then pr.load 1 false u41.2 t67_62 else some LV.undef).bind fun t68_63 =>
 (pr.guard t63_58 false).bind fun b64 =>
 (if b64 = true then pr.bin .neq t66_61 t68_63 else some LV.undef).bind fun t69_64 =>
 (pr.pick t63_58 (LV.bool true) t69_64).bind fun t70_65 =>
 (pr.guard t70_65 false).bind fun b67 =>
 (if b67 = true then pr.fieldAddr 2 2 t11_40.1 else some LV.undef).bind fun t72_67 =>
 (pr.guard t70_65 false).bind fun b68 =>
 (if b68 = true then pr.load 1 false u41.2 t72_67 else some LV.undef).bind fun t73_68 =>
 (pr.guard t70_65 false).bind fun b69 =>
 (if b69 = true then pr.bin .eql t73_68 (LV.int .i64 0) else some LV.undef).bind fun t74_69 =>
 (pr.pick t70_65 (LV.bool true) t74_69).bind fun t75_70 =>
 (pr.guard t75_70 false).bind fun b72 =>
 (if b72 = true then some t37_26 else some LV.undef).bind fun t77_72 =>
 (pr.guard t75_70 false).bind fun b73 =>
 (if b73 = true then some t32_20 else some LV.undef).bind fun t78_73 =>
 (pr.guard t75_70 false).bind fun b74 =>
 (if b74 = true then pr.call g id_udp_Check u41.2 [t77_72, t78_73] else some LV.undef).bind fun t79_74 =>
 (pr.guard t75_70 false).bind fun b75 =>
 (if b75 = true then pr.eqNil 1 true t79_74 else some LV.undef).bind fun t80_75 =>
 (pr.pick t75_70 (LV.bool true) t80_75).bind fun t81_76 =>
 condK t81_76 (
 pr.fin none u41.2 [(LV.bool false)]) (
 (pr.s2b 83 u41.2 t37_26).bind fun t83_79 =>
 (pr.conv .i64 a2).bind fun t85_82 =>
 (pr.len false t83_79.1).bind fun t87_84 =>
 (pr.bin .rem t85_82 t87_84).bind fun t88_85 =>
 (pr.idxAddr none 1 t83_79.1 t88_85).bind fun t93_91 =>
 (pr.load 1 false t83_79.2 t93_91).bind fun t94_92 =>
 (pr.bin .rem a3 (LV.int .u8 8)).bind fun t96_94 =>
 (pr.bin .shl (LV.int .u8 1) t96_94).bind fun t97_95 =>
 (pr.bin .xor t94_92 t97_95).bind fun t98_96 =>
 (pr.idxAddr none 1 t83_79.1 t88_85).bind fun t99_97 =>
 (pr.store 1 false t83_79.2 t99_97 t98_96).bind fun u98 =>
 (pr.b2s u98.2 t83_79.1).bind fun t101_100 =>
 (pr.call g id_udp_Check u98.2 [t101_100, t32_20]).bind fun t103_102 =>
 (pr.eqNil 1 true t103_102).bind fun t105_105 =>
 pr.fin none u98.2 [t105_105]))))
theorem F_interpreterlaw05_UdpBack_eq (g : Call) (a0 : LV) (a1 : LV) (a2 : LV) (a3 : LV) : fnEv g c_interpreterlaw05_UdpBack [a0, a1, a2, a3] none = F_interpreterlaw05_UdpBack g a0 a1 a2 a3 := by kernel_rfl

/-- interpreter/interpreterlaw05.UdpMoves -/
noncomputable def F_interpreterlaw05_UdpMoves (g : Call) (a0 : LV) (a1 : LV) (a2 : LV) (a3 : LV) (a4 : LV) : Option (LV × Option LV) :=
 (pr.box a0).bind fun t5_0 =>
 (pr.call g id_interpreterlaw05_awake noSlots []).bind fun t21_2 =>
 (pr.un .not t21_2).bind fun t22_3 =>
 condK t22_3 (
 pr.fin none noSlots [(LV.bool false)]) (
 (pr.fieldAddr 3 3 t5_0).bind fun t23_5 =>
 (pr.load 1 false noSlots t23_5).bind fun t24_6 =>
 (pr.len true t24_6).bind fun t25_7 =>
 (pr.bin .gtr t25_7 (LV.int .i64 3000)).bind fun t26_8 =>
 (pr.guard t26_8 false).bind fun b10 =>
 (if b10 = true then some a1 else some LV.undef).bind fun t28_10 =>
 (pr.guard t26_8 false).bind fun b11 =>
 (if b11 = true then pr.len true t28_10 else some LV.undef).bind fun t29_11 =>
 (pr.guard t26_8 false).bind fun b12 =>
 (if b12 = true then pr.bin .gtr t29_11 (LV.int .i64 100) else some LV.undef).bind fun t30_12 =>
 (pr.pick t26_8 (LV.bool true) t30_12).bind fun t31_13 =>
 (pr.guard t31_13 false).bind fun b15 =>
 (if b15 = true then some a2 else some LV.undef).bind fun t33_15 =>
 (pr.guard t31_13 false).bind fun b16 =>
 (if b16 = true then pr.len true t33_15 else some LV.undef).bind fun t34_16 =>
 (pr.guard t31_13 false).bind fun b17 =>
 (if b17 = true then pr.bin .gtr t34_16 (LV.int .i64 100) else some LV.undef).bind fun t35_17 =>
 (pr.pick t31_13 (LV.bool true) t35_17).bind fun t36_18 =>
 condK t36_18 (
 pr.fin none noSlots [(LV.bool true)]) (
 (pr.len true a1).bind fun t39_22 =>
 (pr.bin .quo t39_22 (LV.int .i64 2)).bind fun t40_23 =>
 (pr.bin .mul t40_23 (LV.int .i64 2)).bind fun t41_24 =>
 (pr.slc 0 a1 none (some t41_24)).bind fun t42_25 =>
 (pr.len true a2).bind fun t45_29 =>
 (pr.bin .quo t45_29 (LV.int .i64 2)).bind fun t46_30 =>
 (pr.bin .mul t46_30 (LV.int .i64 2)).bind fun t47_31 =>
 (pr.slc 0 a2 none (some t47_31)).bind fun t48_32 =>
 (pr.load 4 true noSlots t5_0).bind fun t50_34 =>
 (pr.call g id_udp_Bytes noSlots [t50_34, t42_25]).bind fun t52_36 =>
 (pr.extract t52_36 0).bind fun t53_38 =>
 (pr.extract t52_36 1).bind fun t54_39 =>
 (pr.eqNil 1 true t54_39).bind fun t56_43 =>
 condK t56_43 (
 (pr.bin .eql t53_38 (LV.str [])).bind fun t58_45 =>
 pr.fin none noSlots [t58_45]) (
 (pr.call g id_udp_Parse noSlots [t53_38]).bind fun t61_48 =>
 (pr.extract t61_48 0).bind fun t62_50 =>
 (pr.extract t61_48 1).bind fun t63_51 =>
 (pr.alloc (LV.agg [(LV.int .i64 0), (LV.int .i64 0), (LV.int .i64 0), (LV.str [])]) 13 noSlots).bind fun t13_52 =>
 (pr.store 4 true t13_52.2 t13_52.1 t62_50).bind fun u53 =>
 (pr.conv .i64 a3).bind fun t65_56 =>
 (pr.conv .i64 a4).bind fun t67_58 =>
 (pr.fieldAddr 0 0 t13_52.1).bind fun t68_59 =>
 (pr.store 1 false u53.2 t68_59 t65_56).bind fun u60 =>
 (pr.fieldAddr 1 1 t13_52.1).bind fun t69_61 =>
 (pr.store 1 false u60.2 t69_61 t67_58).bind fun u62 =>
 (pr.load 4 true u62.2 t13_52.1).bind fun t71_63 =>
 (pr.call g id_udp_Bytes u62.2 [t71_63, t48_32]).bind fun t73_65 =>
 (pr.extract t73_65 0).bind fun t74_67 =>
 (pr.extract t73_65 1).bind fun t75_68 =>
 (pr.call g id_udp_Parse u62.2 [t74_67]).bind fun t78_72 =>
 (pr.extract t78_72 0).bind fun t79_74 =>
 (pr.extract t78_72 1).bind fun t80_75 =>
 (pr.alloc (LV.agg [(LV.int .i64 0), (LV.int .i64 0), (LV.int .i64 0), (LV.str [])]) 17 u62.2).bind fun t17_76 =>
 (pr.store 4 true t17_76.2 t17_76.1 t79_74).bind fun u77 =>
 (pr.fieldAddr 0 0 t5_0).bind fun t81_79 =>
 (pr.load 1 false u77.2 t81_79).bind fun t82_80 =>
 (pr.fieldAddr 1 1 t5_0).bind fun t83_81 =>
 (pr.load 1 false u77.2 t83_81).bind fun t84_82 =>
 (pr.fieldAddr 0 0 t17_76.1).bind fun t85_83 =>
 (pr.store 1 false u77.2 t85_83 t82_80).bind fun u84 =>
 (pr.fieldAddr 1 1 t17_76.1).bind fun t86_85 =>
 (pr.store 1 false u84.2 t86_85 t84_82).bind fun u86 =>
 if noMeet t83_81 t85_83 = true then ((pr.load 4 true u86.2 t17_76.1).bind fun t88_87 =>
 (pr.call g id_udp_Bytes u86.2 [t88_87, t42_25]).bind fun t90_89 =>
 (pr.extract t90_89 0).bind fun t91_91 =>
 (pr.extract t90_89 1).bind fun t92_92 =>
 (pr.eqNil 1 true t63_51).bind fun t94_96 =>
 (pr.guard t94_96 false).bind fun b98 =>
 (if b98 = true then some t75_68 else some LV.undef).bind fun t96_98 =>
 (pr.guard t94_96 false).bind fun b99 =>
 (if b99 = true then pr.eqNil 1 true t96_98 else some LV.undef).bind fun t97_99 =>
 (pr.pick t94_96 (LV.bool true) t97_99).bind fun t98_100 =>
 (pr.guard t98_100 false).bind fun b102 =>
 (if b102 = true then some t80_75 else some LV.undef).bind fun t100_102 =>
 (pr.guard t98_100 false).bind fun b103 =>
 (if b103 = true then pr.eqNil 1 true t100_102 else some LV.undef).bind fun t101_103 =>
 (pr.pick t98_100 (LV.bool true) t101_103).bind fun t102_104 =>
 (pr.guard t102_104 false).bind fun b106 =>
 (if b106 = true then some t92_92 else some LV.undef).bind fun t104_106 =>
 (pr.guard t102_104 false).bind fun b107 =>
 (if b107 = true then pr.eqNil 1 true t104_106 else some LV.undef).bind fun t105_107 =>
 (pr.pick t102_104 (LV.bool true) t105_107).bind fun t106_108 =>
 (pr.guard t106_108 false).bind fun b110 =>
 (if b110 = true then some t91_91 else some LV.undef).bind fun t108_110 =>
 (pr.guard t106_108 false).bind fun b111 =>
 (if b111 = true then some t53_38 else some LV.undef).bind fun t109_111 =>
 (pr.guard t106_108 false).bind fun b112 =>
 (if b112 = true then pr.bin .neq t108_110 t109_111 else some LV.undef).bind fun t110_112 =>
 (pr.pick t106_108 (LV.bool true) t110_112).bind fun t111_113 =>
 (pr.guard t111_113 false).bind fun b115 =>
 (if b115 = true then some t74_67 else some LV.undef).bind fun t113_115 =>
 (pr.guard t111_113 false).bind fun b116 =>
 (if b116 = true then some t48_32 else some LV.undef).bind fun t114_116 =>
 (pr.guard t111_113 false).bind fun b117 =>
 (if b117 = true then pr.call g id_udp_Check u86.2 [t113_115, t114_116] else some LV.undef).bind fun t115_117 =>
 (pr.guard t111_113 false).bind fun b118 =>
 (if b118 = true then pr.eqNil 1 true t115_117 else some LV.undef).bind fun t116_118 =>
 (pr.pick t111_113 (LV.bool true) t116_118).bind fun t117_119 =>
 condK t117_119 (
 pr.fin none u86.2 [(LV.bool false)]) (
 (pr.call g id_udp_Check u86.2 [t74_67, t42_25]).bind fun t120_123 =>
 (pr.eqNil 1 false t120_123).bind fun t121_124 =>
 (pr.bsl (LV.str []) 2 [(0, t42_25), (1, t74_67)]).bind fun t124_127 =>
 (pr.call g id_sum_Right u86.2 [t124_127]).bind fun t125_128 =>
 (pr.eqB false t121_124 t125_128).bind fun t126_129 =>
 pr.fin none u86.2 [t126_129])) else none)))
theorem F_interpreterlaw05_UdpMoves_eq (g : Call) (a0 : LV) (a1 : LV) (a2 : LV) (a3 : LV) (a4 : LV) : fnEv g c_interpreterlaw05_UdpMoves [a0, a1, a2, a3, a4] none = F_interpreterlaw05_UdpMoves g a0 a1 a2 a3 a4 := by kernel_rfl

/-- interpreter/interpreterlaw06.TcpKnown -/
noncomputable def F_interpreterlaw06_TcpKnown (g : Call) : Option (LV × Option LV) :=
 (pr.call g id_interpreterlaw06_raw noSlots []).bind fun t12_1 =>
 (pr.slc 0 t12_1 none (some (LV.int .i64 19))).bind fun t13_2 =>
 (pr.call g id_tcp_Parse noSlots [t13_2]).bind fun t14_3 =>
 (pr.extract t14_3 0).bind fun t15_5 =>
 (pr.extract t14_3 1).bind fun t16_6 =>
 (pr.alloc (LV.agg [(LV.int .i64 0), (LV.int .i64 0), (LV.int .i64 0), (LV.str [])]) 1 noSlots).bind fun t1_7 =>
 (pr.store 4 true t1_7.2 t1_7.1 t15_5).bind fun u8 =>
 (pr.call g id_strings_Repeat u8.2 [(LV.str [0]), (LV.int .i64 20)]).bind fun t18_10 =>
 (pr.call g id_tcp_Parse u8.2 [t18_10]).bind fun t19_11 =>
 (pr.extract t19_11 0).bind fun t20_13 =>
 (pr.extract t19_11 1).bind fun t21_14 =>
 (pr.alloc (LV.agg [(LV.int .i64 0), (LV.int .i64 0), (LV.int .i64 0), (LV.str [])]) 3 u8.2).bind fun t3_15 =>
 (pr.store 4 true t3_15.2 t3_15.1 t20_13).bind fun u16 =>
 (pr.call g id_interpreterlaw06_raw u16.2 []).bind fun t23_18 =>
 (pr.parts (LV.agg [(LV.int .i64 0), (LV.int .i64 0), (LV.int .i64 0), (LV.str [])]) [(0, (LV.int .i64 65536)), (3, t23_18)]).bind fun t24_19 =>
 (pr.call g id_tcp_Bytes u16.2 [t24_19, (LV.str [])]).bind fun t25_20 =>
 (pr.extract t25_20 0).bind fun t26_22 =>
 (pr.extract t25_20 1).bind fun t27_23 =>
 (pr.call g id_interpreterlaw06_raw u16.2 []).bind fun t29_26 =>
 (pr.slc 0 t29_26 none (some (LV.int .i64 13))).bind fun t30_27 =>
 (pr.bin .add t30_27 (LV.str [255])).bind fun t31_28 =>
 (pr.call g id_interpreterlaw06_raw u16.2 []).bind fun t32_29 =>
 (pr.slc 0 t32_29 (some (LV.int .i64 14)) none).bind fun t33_30 =>
 (pr.bin .add t31_28 t33_30).bind fun t34_31 =>
 (pr.call g id_tcp_Parse u16.2 [t34_31]).bind fun t35_32 =>
 (pr.extract t35_32 0).bind fun t36_34 =>
 (pr.extract t35_32 1).bind fun t37_35 =>
 (pr.alloc (LV.agg [(LV.int .i64 0), (LV.int .i64 0), (LV.int .i64 0), (LV.str [])]) 7 u16.2).bind fun t7_36 =>
 (pr.store 4 true t7_36.2 t7_36.1 t36_34).bind fun u37 =>
 (pr.call g id_interpreterlaw06_raw u37.2 []).bind fun t39_39 =>
 (pr.slc 0 t39_39 none (some (LV.int .i64 12))).bind fun t40_40 =>
 (pr.bin .add t40_40 (LV.str [96])).bind fun t41_41 =>
 (pr.call g id_interpreterlaw06_raw u37.2 []).bind fun t42_42 =>
 (pr.slc 0 t42_42 (some (LV.int .i64 13)) none).bind fun t43_43 =>
 (pr.bin .add t41_41 t43_43).bind fun t44_44 =>
 (pr.call g id_tcp_Parse u37.2 [t44_44]).bind fun t45_45 =>
 (pr.extract t45_45 0).bind fun t46_47 =>
 (pr.extract t45_45 1).bind fun t47_48 =>
 (pr.alloc (LV.agg [(LV.int .i64 0), (LV.int .i64 0), (LV.int .i64 0), (LV.str [])]) 9 u37.2).bind fun t9_49 =>
 (pr.store 4 true t9_49.2 t9_49.1 t46_47).bind fun u50 =>
 (pr.call g id_interpreterlaw06_awake u50.2 []).bind fun t48_52 =>
 (pr.guard t48_52 true).bind fun b54 =>
 (if b54 = true then some t16_6 else some LV.undef).bind fun t50_54 =>
 (pr.guard t48_52 true).bind fun b55 =>
 (if b55 = true then pr.call g id_interpreterlaw06_same u50.2 [t50_54, (LV.int .i64 7)] else some LV.undef).bind fun t51_55 =>
 (pr.pick t48_52 t51_55 (LV.bool false)).bind fun t52_56 =>
 (pr.guard t52_56 true).bind fun b58 =>
 (if b58 = true then some t21_14 else some LV.undef).bind fun t54_58 =>
 (pr.guard t52_56 true).bind fun b59 =>
 (if b59 = true then pr.call g id_interpreterlaw06_same u50.2 [t54_58, (LV.int .i64 8)] else some LV.undef).bind fun t55_59 =>
 (pr.pick t52_56 t55_59 (LV.bool false)).bind fun t56_60 =>
 (pr.guard t56_60 true).bind fun b62 =>
 (if b62 = true then some t27_23 else some LV.undef).bind fun t58_62 =>
 (pr.guard t56_60 true).bind fun b63 =>
 (if b63 = true then pr.call g id_interpreterlaw06_same u50.2 [t58_62, (LV.int .i64 13)] else some LV.undef).bind fun t59_63 =>
 (pr.pick t56_60 t59_63 (LV.bool false)).bind fun t60_64 =>
 (pr.guard t60_64 true).bind fun b66 =>
 (if b66 = true then some t37_35 else some LV.undef).bind fun t62_66 =>
 (pr.guard t60_64 true).bind fun b67 =>
 (if b67 = true then pr.eqNil 1 false t62_66 else some LV.undef).bind fun t63_67 =>
 (pr.pick t60_64 t63_67 (LV.bool false)).bind fun t64_68 =>
 (pr.guard t64_68 true).bind fun b70 =>
 (if b70 = true then pr.fieldAddr 2 2 t7_36.1 else some LV.undef).bind fun t66_70 =>
 (pr.guard t64_68 true).bind fun b71 =>
 (if b71 = true then pr.load 1 false u50.2 t66_70 else some LV.undef).bind fun t67_71 =>
 (pr.guard t64_68 true).bind fun b72 =>
 (if b72 = true then pr.bin .eql t67_71 (LV.int .i64 63) else some LV.undef).bind fun t68_72 =>
 (pr.pick t64_68 t68_72 (LV.bool false)).bind fun t69_73 =>
 (pr.guard t69_73 true).bind fun b75 =>
 (if b75 = true then some t47_48 else some LV.undef).bind fun t71_75 =>
 (pr.guard t69_73 true).bind fun b76 =>
 (if b76 = true then pr.call g id_interpreterlaw06_same u50.2 [t71_75, (LV.int .i64 7)] else some LV.undef).bind fun t72_76 =>
 (pr.pick t69_73 t72_76 (LV.bool false)).bind fun t73_77 =>
 (pr.pick t73_77 (LV.bool true) (LV.bool false)).bind fun t75_79 =>
 (pr.pick t75_79 (LV.bool true) (LV.bool false)).bind fun t77_81 =>
 (pr.pick t77_81 (LV.bool true) (LV.bool false)).bind fun t79_83 =>
 (pr.pick t79_83 (LV.bool true) (LV.bool false)).bind fun t81_85 =>
 pr.fin none u50.2 [t81_85]
theorem F_interpreterlaw06_TcpKnown_eq (g : Call) : fnEv g c_interpreterlaw06_TcpKnown [] none = F_interpreterlaw06_TcpKnown g := by kernel_rfl

/-- interpreter/interpreterlaw06.TcpWrites -/
noncomputable def F_interpreterlaw06_TcpWrites (g : Call) (a0 : LV) (a1 : LV) : Option (LV × Option LV) :=
 (pr.box a0).bind fun t2_0 =>
 (pr.call g id_interpreterlaw06_awake noSlots []).bind fun t9_2 =>
 (pr.un .not t9_2).bind fun t10_3 =>
 condK t10_3 (
 pr.fin none noSlots [(LV.bool false)]) (
 (pr.fieldAddr 3 3 t2_0).bind fun t11_5 =>
 (pr.load 1 false noSlots t11_5).bind fun t12_6 =>
 (pr.len true t12_6).bind fun t13_7 =>
 (pr.bin .gtr t13_7 (LV.int .i64 70000)).bind fun t14_8 =>
 (pr.guard t14_8 false).bind fun b10 =>
 (if b10 = true then some a1 else some LV.undef).bind fun t16_10 =>
 (pr.guard t14_8 false).bind fun b11 =>
 (if b11 = true then pr.len true t16_10 else some LV.undef).bind fun t17_11 =>
 (pr.guard t14_8 false).bind fun b12 =>
 (if b12 = true then pr.bin .gtr t17_11 (LV.int .i64 1000) else some LV.undef).bind fun t18_12 =>
 (pr.pick t14_8 (LV.bool true) t18_12).bind fun t19_13 =>
 condK t19_13 (
 pr.fin none noSlots [(LV.bool true)]) (
 (pr.load 4 true noSlots t2_0).bind fun t21_15 =>
 (pr.call g id_tcp_Bytes noSlots [t21_15, a1]).bind fun t23_17 =>
 (pr.extract t23_17 0).bind fun t24_19 =>
 (pr.extract t23_17 1).bind fun t25_20 =>
 (pr.load 4 true noSlots t2_0).bind fun t27_23 =>
 (pr.call g id_interpreterref06_Bytes noSlots [t27_23, a1]).bind fun t29_25 =>
 (pr.extract t29_25 0).bind fun t30_27 =>
 (pr.extract t29_25 1).bind fun t31_28 =>
 (pr.bin .eql t24_19 t30_27).bind fun t34_33 =>
 (pr.guard t34_33 true).bind fun b35 =>
 (if b35 = true then some t25_20 else some LV.undef).bind fun t36_35 =>
 (pr.guard t34_33 true).bind fun b36 =>
 (if b36 = true then some t31_28 else some LV.undef).bind fun t37_36 =>
 (pr.guard t34_33 true).bind fun b37 =>
 (if b37 = true then pr.call g id_interpreterlaw06_same noSlots [t36_35, t37_36] else some LV.undef).bind fun t38_37 =>
 (pr.pick t34_33 t38_37 (LV.bool false)).bind fun t39_38 =>
 pr.fin none noSlots [t39_38]))
theorem F_interpreterlaw06_TcpWrites_eq (g : Call) (a0 : LV) (a1 : LV) : fnEv g c_interpreterlaw06_TcpWrites [a0, a1] none = F_interpreterlaw06_TcpWrites g a0 a1 := by kernel_rfl

/-- interpreter/interpreterlaw06.TcpReads -/
noncomputable def F_interpreterlaw06_TcpReads (g : Call) (a0 : LV) (a1 : LV) : Option (LV × Option LV) :=
 (pr.call g id_interpreterlaw06_awake noSlots []).bind fun t9_1 =>
 (pr.un .not t9_1).bind fun t10_2 =>
 condK t10_2 (
 pr.fin none noSlots [(LV.bool false)]) (
 (pr.len true a0).bind fun t12_5 =>
 (pr.bin .gtr t12_5 (LV.int .i64 70000)).bind fun t13_6 =>
 (pr.guard t13_6 false).bind fun b8 =>
 (if b8 = true then some a1 else some LV.undef).bind fun t15_8 =>
 (pr.guard t13_6 false).bind fun b9 =>
 (if b9 = true then pr.len true t15_8 else some LV.undef).bind fun t16_9 =>
 (pr.guard t13_6 false).bind fun b10 =>
 (if b10 = true then pr.bin .gtr t16_9 (LV.int .i64 1000) else some LV.undef).bind fun t17_10 =>
 (pr.pick t13_6 (LV.bool true) t17_10).bind fun t18_11 =>
 condK t18_11 (
 pr.fin none noSlots [(LV.bool true)]) (
 (pr.call g id_tcp_Parse noSlots [a0]).bind fun t21_14 =>
 (pr.extract t21_14 0).bind fun t22_16 =>
 (pr.extract t21_14 1).bind fun t23_17 =>
 (pr.alloc (LV.agg [(LV.int .i64 0), (LV.int .i64 0), (LV.int .i64 0), (LV.str [])]) 5 noSlots).bind fun t5_18 =>
 (pr.store 4 true t5_18.2 t5_18.1 t22_16).bind fun u19 =>
 (pr.call g id_interpreterref06_Parse u19.2 [a0]).bind fun t26_22 =>
 (pr.extract t26_22 0).bind fun t27_24 =>
 (pr.extract t26_22 1).bind fun t28_25 =>
 (pr.alloc (LV.agg [(LV.int .i64 0), (LV.int .i64 0), (LV.int .i64 0), (LV.str [])]) 7 u19.2).bind fun t7_26 =>
 (pr.store 4 true t7_26.2 t7_26.1 t27_24).bind fun u27 =>
 (pr.load 4 true u27.2 t5_18.1).bind fun t29_29 =>
 (pr.load 4 true u27.2 t7_26.1).bind fun t30_30 =>
 (pr.eqS (Sh.agg [(Sh.int .i64), (Sh.int .i64), (Sh.int .i64), Sh.str]) false t29_29 t30_30).bind fun t31_31 =>
 (pr.guard t31_31 true).bind fun b33 =>
 (if b33 = true then some t23_17 else some LV.undef).bind fun t33_33 =>
 (pr.guard t31_31 true).bind fun b34 =>
 (if b34 = true then some t28_25 else some LV.undef).bind fun t34_34 =>
 (pr.guard t31_31 true).bind fun b35 =>
 (if b35 = true then pr.call g id_interpreterlaw06_same u27.2 [t33_33, t34_34] else some LV.undef).bind fun t35_35 =>
 (pr.pick t31_31 t35_35 (LV.bool false)).bind fun t36_36 =>
 (pr.guard t36_36 true).bind fun b38 =>
 (if b38 = true then some a0 else some LV.undef).bind fun t38_38 =>
 (pr.guard t36_36 true).bind fun b39 =>
 (if b39 = true then some a1 else some LV.undef).bind fun t39_39 =>
 (pr.guard t36_36 true).bind fun b40 =>
 (if b40 = true then pr.call g id_tcp_Check u27.2 [t38_38, t39_39] else some LV.undef).bind fun t40_40 =>
 (pr.guard t36_36 true).bind fun b41 =>
 (if b41 = true then some a0 else some LV.undef).bind fun t41_41 =>
 (pr.guard t36_36 true).bind fun b42 =>
 (if b42 = true then some a1 else some LV.undef).bind fun t42_42 =>
 (pr.guard t36_36 true).bind fun b43 =>
 (if b43 = true then pr.call g id_interpreterref06_Check u27.2 [t41_41, t42_42] else some LV.undef).bind fun t43_43 =>
 (pr.guard t36_36 true).bind fun b44 =>
 (if b44 = true then pr.call g id_interpreterlaw06_same u27.2 [t40_40, t43_43] else some LV.undef).bind fun t44_44 =>
 (pr.pick t36_36 t44_44 (LV.bool false)).bind fun t45_45 =>
 pr.fin none u27.2 [t45_45]))
theorem F_interpreterlaw06_TcpReads_eq (g : Call) (a0 : LV) (a1 : LV) : fnEv g c_interpreterlaw06_TcpReads [a0, a1] none = F_interpreterlaw06_TcpReads g a0 a1 := by kernel_rfl

/-- interpreter/interpreterlaw06.TcpBack -/
noncomputable def F_interpreterlaw06_TcpBack (g : Call) (a0 : LV) (a1 : LV) (a2 : LV) (a3 : LV) : Option (LV × Option LV) :=
 (pr.box a0).bind fun t4_0 =>
 (pr.call g id_interpreterlaw06_awake noSlots []).bind fun t15_2 =>
 (pr.un .not t15_2).bind fun t16_3 =>
 condK t16_3 (
 pr.fin none noSlots [(LV.bool false)]) (
 (pr.fieldAddr 3 3 t4_0).bind fun t17_5 =>
 (pr.load 1 false noSlots t17_5).bind fun t18_6 =>
 (pr.len true t18_6).bind fun t19_7 =>
 (pr.bin .gtr t19_7 (LV.int .i64 70000)).bind fun t20_8 =>
 (pr.guard t20_8 false).bind fun b10 =>
 (if b10 = true then some a1 else some LV.undef).bind fun t22_10 =>
 (pr.guard t20_8 false).bind fun b11 =>
 (if b11 = true then pr.len true t22_10 else some LV.undef).bind fun t23_11 =>
 (pr.guard t20_8 false).bind fun b12 =>
 (if b12 = true then pr.bin .gtr t23_11 (LV.int .i64 1000) else some LV.undef).bind fun t24_12 =>
 (pr.pick t20_8 (LV.bool true) t24_12).bind fun t25_13 =>
 condK t25_13 (
 pr.fin none noSlots [(LV.bool true)]) (
 (pr.len true a1).bind fun t28_17 =>
 (pr.bin .quo t28_17 (LV.int .i64 2)).bind fun t29_18 =>
 (pr.bin .mul t29_18 (LV.int .i64 2)).bind fun t30_19 =>
 (pr.slc 0 a1 none (some t30_19)).bind fun t31_20 =>
 (pr.load 4 true noSlots t4_0).bind fun t33_22 =>
 (pr.call g id_tcp_Bytes noSlots [t33_22, t31_20]).bind fun t35_24 =>
 (pr.extract t35_24 0).bind fun t36_26 =>
 (pr.extract t35_24 1).bind fun t37_27 =>
 (pr.eqNil 1 true t37_27).bind fun t39_31 =>
 condK t39_31 (
 (pr.bin .eql t36_26 (LV.str [])).bind fun t41_33 =>
 pr.fin none noSlots [t41_33]) (
 (pr.call g id_tcp_Parse noSlots [t36_26]).bind fun t44_36 =>
 (pr.extract t44_36 0).bind fun t45_38 =>
 (pr.extract t44_36 1).bind fun t46_39 =>
 (pr.alloc (LV.agg [(LV.int .i64 0), (LV.int .i64 0), (LV.int .i64 0), (LV.str [])]) 11 noSlots).bind fun t11_40 =>
 (pr.store 4 true t11_40.2 t11_40.1 t45_38).bind fun u41 =>
 (pr.eqNil 1 true t46_39).bind fun t48_44 =>
 (pr.guard t48_44 false).bind fun b46 =>
 (if b46 = true then some t36_26 else some LV.undef).bind fun t50_46 =>
 (pr.guard t48_44 false).bind fun b47 =>
 (if b47 = true then pr.len true t50_46 else some LV.undef).bind fun t51_47 =>
 (pr.guard t48_44 false).bind fun b48 =>
 (if b48 = true then pr.fieldAddr 3 3 t4_0 else some LV.undef).bind fun t52_48 =>
 (pr.guard t48_44 false).bind fun b49 =>
 (if b49 = true then pr.load 1 false u41.2 t52_48 else some LV.undef).bind fun t53_49 =>
 (pr.guard t48_44 false).bind fun b50 =>
 (if b50 = true then pr.len true t53_49 else some LV.undef).bind fun t54_50 =>
 (pr.guard t48_44 false).bind fun b51 =>
 (if b51 = true then pr.bin .neq t51_47 t54_50 else some LV.undef).bind fun t55_51 =>
 (pr.pick t48_44 (LV.bool true) t55_51).bind fun t56_52 =>
 (pr.guard t56_52 false).bind fun b54 =>
 (if b54 = true then some t36_26 else some LV.undef).bind fun t58_54 =>
 (pr.guard t56_52 false).bind fun b55 =>
 (if b55 = true then pr.len true t58_54 else some LV.undef).bind fun t59_55 =>
 (pr.guard t56_52 false).bind fun b56 =>
 (if b56 = true then pr.bin .lss t59_55 (LV.int .i64 20) else some LV.undef).bind fun t60_56 =>
 (pr.pick t56_52 (LV.bool true) t60_56).bind fun t61_57 =>
 (pr.guard t61_57 false).bind fun b59 =>
 (if b59 = true then pr.fieldAddr 0 0 t11_40.1 else some LV.undef).bind fun t63_59 =>
 (pr.guard t61_57 false).bind fun b60 =>
 (if b60 = true then pr.load 1 false u41.2 t63_59 else some LV.undef).bind fun t64_60 =>
 (pr.guard t61_57 false).bind fun b61 =>
 (if b61 = true then pr.fieldAddr 0 0 t4_0 else some LV.undef).bind fun t65_61 =>
 (pr.guard t61_57 false).bind fun b62 =>
 (if b62 = true then pr.load 1 false u41.2 t65_61 else some LV.undef).bind fun t66_62 =>
 (pr.guard t61_57 false).bind fun b63 =>
 (if b63 = true then pr.bin .neq t64_60 t66_62 else some LV.undef).bind fun t67_63 =>
 (pr.pick t61_57 (LV.bool true) t67_63).bind fun t68_64 =>
 (pr.guard t68_64 false).bind fun b66 =>
 (if b66 = true then pr.fieldAddr 1 1 t11_40.1 else some LV.undef).bind fun t70_66 =>
 (pr.guard t68_64 false).bind fun b67 =>
 (if b67 = true then pr.load 1 false u41.2 t70_66 else some LV.undef).bind fun t71_67 =>
 (pr.guard t68_64 false).bind fun b68 =>
 (if b68 = true then pr.fieldAddr 1 1 t4_0 else some LV.undef).bind fun t72_68 =>
 (pr.guard t68_64 false).bind fun b69 =>
 (if b69 = true then pr.load 1 false u41.2 t72_68 else some LV.undef).bind fun t73_69 =>
 (pr.guard t68_64 false).bind fun b70 =>
 (if b70 = true then pr.bin .neq t71_67 t73_69 else some LV.undef).bind fun t74_70 =>
 (pr.pick t68_64 (LV.bool true) t74_70).bind fun t75_71 =>
 (pr.guard t75_71 false).bind fun b73 =>
 (if b73 = true then pr.fieldAddr 3 3 t11_40.1 else some LV.undef).bind fun t77_73 =>
 (pr.guard t75_71 false).bind fun b74 =>
 (if b74 = true then pr.load 1 false u41.2 t77_73 else some LV.undef).bind fun t78_74 =>
 (pr.guard t75_71 false).bind fun b75 =>
 (if b75 = true then some t36_26 else some LV.undef).bind fun t79_75 =>
 (pr.guard t75_71 false).bind fun b76 =>
 (if b76 = true then pr.bin .neq t78_74 t79_75 else some LV.undef).bind fun t80_76 =>
 (pr.pick t75_71 (LV.bool true) t80_76).bind fun t81_77 =>
 (pr.guard t81_77 false).bind fun b79 =>
 (if b79 = true then some t36_26 else some LV.undef).bind fun t83_79 =>
 (pr.guard t81_77 false).bind fun b80 =>
 (if b80 = true then some t31_20 else some LV.undef).bind fun t84_80 =>
 (pr.guard t81_77 false).bind fun b81 =>
 (if b81 = true then pr.call g id_tcp_Check u41.2 [t83_79, t84_80] else some LV.undef).bind fun t85_81 =>
 (pr.guard t81_77 false).bind fun b82 =>
 (if b82 = true then pr.eqNil 1 true t85_81 else some LV.undef).bind fun t86_82 =>
 (pr.pick t81_77 (LV.bool true) t86_82).bind fun t87_83 =>
 (pr.guard t87_83 false).bind fun b85 =>
 (if b85 = true then some t36_26 else some LV.undef).bind fun t89_85 =>
 (pr.guard t87_83 false).bind fun b86 =>
 (if b86 = true then pr.slc 0 t89_85 (some (LV.int .i64 4)) (some (LV.int .i64 16)) else some LV.undef).bind fun t90_86 =>
 (pr.guard t87_83 false).bind fun b87 =>
 (if b87 = true then pr.fieldAddr 3 3 t4_0 else some LV.undef).bind fun t91_87 =>
 (pr.guard t87_83 false).bind fun b88 =>
 (if b88 = true then pr.load 1 false u41.2 t91_87 else some LV.undef).bind fun t92_88 =>
 (pr.guard t87_83 false).bind fun b89 =>
 (if b89 = true then pr.slc 0 t92_88 (some (LV.int .i64 4)) (some (LV.int .i64 16)) else some LV.undef).bind fun t93_89 =>
 (pr.guard t87_83 false).bind fun b90 =>
 (if b90 = true then pr.bin .neq t90_86 t93_89 else some LV.undef).bind fun t94_90 =>
 (pr.pick t87_83 (LV.bool true) t94_90).bind fun t95_91 =>
 (pr.guard t95_91 false).bind fun b93 =>
 (if b93 = true then some t36_26 else some LV.undef).bind fun t97_93 =>
 (pr.guard t95_91 false).bind fun b94 =>
 (if b94 = true then pr.slc 0 t97_93 (some (LV.int .i64 18)) none else some LV.undef).bind fun t98_94 =>
 (pr.guard t95_91 false).bind fun b95 =>
 (if b95 = true then pr.fieldAddr 3 3 t4_0 else some LV.undef).bind fun t99_95 =>
 (pr.guard t95_91 false).bind fun b96 =>
 (if b96 = true then pr.load 1 false u41.2 t99_95 else some LV.undef).bind fun t100_96 =>
 (pr.guard t95_91 false).bind fun b97 =>
 (if b97 = true then pr.slc 0 t100_96 (some (LV.int .i64 18)) none else some LV.undef).bind fun t101_97 =>
 (pr.guard t95_91 false).bind fun b98 =>
 (if b98 = true then pr.bin .neq t98_94 t101_97 else some LV.undef).bind fun t102_98 =>
 (pr.pick t95_91 (LV.bool true) t102_98).bind fun t103_99 =>
 (pr.guard t103_99 false).bind fun b101 =>
 (if b101 = true then pr.fieldAddr 2 2 t11_40.1 else some LV.undef).bind fun t105_101 =>
 (pr.guard t103_99 false).bind fun b102 =>
 (if b102 = true then pr.load 1 false u41.2 t105_101 else some LV.undef).bind fun t106_102 =>
 (pr.guard t103_99 false).bind fun b103 =>
 (if b103 = true then pr.fieldAddr 3 3 t4_0 else some LV.undef).bind fun t107_103 =>
 (pr.guard t103_99 false).bind fun b104 =>
 (if b104 = true then pr.load 1 false u41.2 t107_103 else some LV.undef).bind fun t108_104 =>
 (pr.guard t103_99 false).bind fun b105 =>
 (if b105 = true then pr.idxStr t108_104 (LV.int .i64 13) else some LV.undef).bind fun t109_105 =>
 (pr.guard t103_99 false).bind fun b106 =>
 (if b106 = true then pr.bin .and t109_105 (LV.int .u8 63) else some LV.undef).bind fun t110_106 =>
 (pr.guard t103_99 false).bind fun b107 =>
 (if b107 = true then pr.conv .i64 t110_106 else some LV.undef).bind fun t111_107 =>
 (pr.guard t103_99 false).bind fun b108 =>
 (if b108 = true then pr.bin .neq t106_102 t111_107 else some LV.undef).bind fun t112_108 =>
 (pr.pick t103_99 (LV.bool true) t112_108).bind fun t113_109 =>
 condK t113_109 (
 pr.fin none u41.2 [(LV.bool false)]) (
 (pr.s2b 115 u41.2 t36_26).bind fun t115_112 =>
 (pr.conv .i64 a2).bind fun t117_115 =>
 (pr.len false t115_112.1).bind fun t119_117 =>
 (pr.bin .rem t117_115 t119_117).bind fun t120_118 =>
 (pr.idxAddr none 1 t115_112.1 t120_118).bind fun t125_124 =>
 (pr.load 1 false t115_112.2 t125_124).bind fun t126_125 =>
 (pr.bin .rem a3 (LV.int .u8 8)).bind fun t128_127 =>
 (pr.bin .shl (LV.int .u8 1) t128_127).bind fun t129_128 =>
 (pr.bin .xor t126_125 t129_128).bind fun t130_129 =>
 (pr.idxAddr none 1 t115_112.1 t120_118).bind fun t131_130 =>
 (pr.store 1 false t115_112.2 t131_130 t130_129).bind fun u131 =>
 (pr.b2s u131.2 t115_112.1).bind fun t133_133 =>
 (pr.call g id_tcp_Check u131.2 [t133_133, t31_20]).bind fun t135_135 =>
 (pr.eqNil 1 true t135_135).bind fun t136_136 =>
 pr.fin none u131.2 [t136_136]))))
theorem F_interpreterlaw06_TcpBack_eq (g : Call) (a0 : LV) (a1 : LV) (a2 : LV) (a3 : LV) : fnEv g c_interpreterlaw06_TcpBack [a0, a1, a2, a3] none = F_interpreterlaw06_TcpBack g a0 a1 a2 a3 := by kernel_rfl

/-- interpreter/interpreterlaw06.TcpAgain -/
noncomputable def F_interpreterlaw06_TcpAgain (g : Call) (a0 : LV) (a1 : LV) (a2 : LV) (a3 : LV) : Option (LV × Option LV) :=
 (pr.call g id_interpreterlaw06_awake noSlots []).bind fun t17_1 =>
 (pr.un .not t17_1).bind fun t18_2 =>
 condK t18_2 (
 pr.fin none noSlots [(LV.bool false)]) (
 (pr.len true a0).bind fun t20_5 =>
 (pr.bin .gtr t20_5 (LV.int .i64 70000)).bind fun t21_6 =>
 (pr.guard t21_6 false).bind fun b8 =>
 (if b8 = true then some a1 else some LV.undef).bind fun t23_8 =>
 (pr.guard t21_6 false).bind fun b9 =>
 (if b9 = true then pr.len true t23_8 else some LV.undef).bind fun t24_9 =>
 (pr.guard t21_6 false).bind fun b10 =>
 (if b10 = true then pr.bin .gtr t24_9 (LV.int .i64 1000) else some LV.undef).bind fun t25_10 =>
 (pr.pick t21_6 (LV.bool true) t25_10).bind fun t26_11 =>
 condK t26_11 (
 pr.fin none noSlots [(LV.bool true)]) (
 (pr.len true a1).bind fun t29_15 =>
 (pr.bin .quo t29_15 (LV.int .i64 2)).bind fun t30_16 =>
 (pr.bin .mul t30_16 (LV.int .i64 2)).bind fun t31_17 =>
 (pr.slc 0 a1 none (some t31_17)).bind fun t32_18 =>
 (pr.call g id_tcp_Parse noSlots [a0]).bind fun t35_21 =>
 (pr.extract t35_21 0).bind fun t36_23 =>
 (pr.extract t35_21 1).bind fun t37_24 =>
 (pr.alloc (LV.agg [(LV.int .i64 0), (LV.int .i64 0), (LV.int .i64 0), (LV.str [])]) 9 noSlots).bind fun t9_25 =>
 (pr.store 4 true t9_25.2 t9_25.1 t36_23).bind fun u26 =>
 (pr.eqNil 1 true t37_24).bind fun t39_29 =>
 condK t39_29 (
 (pr.load 4 true u26.2 t9_25.1).bind fun t40_30 =>
 (pr.parts (LV.agg [(LV.int .i64 0), (LV.int .i64 0), (LV.int .i64 0), (LV.str [])]) []).bind fun t41_31 =>
 (pr.eqS (Sh.agg [(Sh.int .i64), (Sh.int .i64), (Sh.int .i64), Sh.str]) false t40_30 t41_31).bind fun t42_32 =>
 (pr.guard t42_32 true).bind fun b34 =>
 (if b34 = true then some a0 else some LV.undef).bind fun t44_34 =>
 (pr.guard t42_32 true).bind fun b35 =>
 (if b35 = true then some t32_18 else some LV.undef).bind fun t45_35 =>
 (pr.guard t42_32 true).bind fun b36 =>
 (if b36 = true then pr.call g id_tcp_Check u26.2 [t44_34, t45_35] else some LV.undef).bind fun t46_36 =>
 (pr.guard t42_32 true).bind fun b37 =>
 (if b37 = true then pr.eqNil 1 true t46_36 else some LV.undef).bind fun t47_37 =>
 (pr.pick t42_32 t47_37 (LV.bool false)).bind fun t48_38 =>
 pr.fin none u26.2 [t48_38]) (
 (pr.load 4 true u26.2 t9_25.1).bind fun t50_40 =>
 (pr.call g id_tcp_Bytes u26.2 [t50_40, t32_18]).bind fun t52_42 =>
 (pr.extract t52_42 0).bind fun t53_44 =>
 (pr.extract t52_42 1).bind fun t54_45 =>
 (pr.conv .i64 a2).bind fun t57_49 =>
 (pr.conv .i64 a3).bind fun t59_51 =>
 (pr.parts (LV.agg [(LV.int .i64 0), (LV.int .i64 0), (LV.int .i64 0), (LV.str [])]) [(0, t57_49), (1, t59_51), (3, a0)]).bind fun t61_53 =>
 (pr.call g id_tcp_Bytes u26.2 [t61_53, t32_18]).bind fun t63_55 =>
 (pr.extract t63_55 0).bind fun t64_57 =>
 (pr.extract t63_55 1).bind fun t65_58 =>
 (pr.fieldAddr 0 0 t9_25.1).bind fun t67_61 =>
 (pr.load 1 false u26.2 t67_61).bind fun t68_62 =>
 (pr.fieldAddr 1 1 t9_25.1).bind fun t69_63 =>
 (pr.load 1 false u26.2 t69_63).bind fun t70_64 =>
 (pr.parts (LV.agg [(LV.int .i64 0), (LV.int .i64 0), (LV.int .i64 0), (LV.str [])]) [(0, t68_62), (1, t70_64), (3, t64_57)]).bind fun t72_66 =>
 (pr.call g id_tcp_Bytes u26.2 [t72_66, t32_18]).bind fun t74_68 =>
 (pr.extract t74_68 0).bind fun t75_70 =>
 (pr.extract t74_68 1).bind fun t76_71 =>
 (pr.eqNil 1 true t54_45).bind fun t78_75 =>
 (pr.guard t78_75 false).bind fun b77 =>
 (if b77 = true then some t65_58 else some LV.undef).bind fun t80_77 =>
 (pr.guard t78_75 false).bind fun b78 =>
 (if b78 = true then pr.eqNil 1 true t80_77 else some LV.undef).bind fun t81_78 =>
 (pr.pick t78_75 (LV.bool true) t81_78).bind fun t82_79 =>
 (pr.guard t82_79 false).bind fun b81 =>
 (if b81 = true then some t76_71 else some LV.undef).bind fun t84_81 =>
 (pr.guard t82_79 false).bind fun b82 =>
 (if b82 = true then pr.eqNil 1 true t84_81 else some LV.undef).bind fun t85_82 =>
 (pr.pick t82_79 (LV.bool true) t85_82).bind fun t86_83 =>
 (pr.guard t86_83 false).bind fun b85 =>
 (if b85 = true then some a0 else some LV.undef).bind fun t88_85 =>
 (pr.guard t86_83 false).bind fun b86 =>
 (if b86 = true then pr.len true t88_85 else some LV.undef).bind fun t89_86 =>
 (pr.guard t86_83 false).bind fun b87 =>
 (if b87 = true then pr.bin .lss t89_86 (LV.int .i64 20) else some LV.undef).bind fun t90_87 =>
 (pr.pick t86_83 (LV.bool true) t90_87).bind fun t91_88 =>
 (pr.guard t91_88 false).bind fun b90 =>
 (if b90 = true then some t53_44 else some LV.undef).bind fun t93_90 =>
 (pr.guard t91_88 false).bind fun b91 =>
 (if b91 = true then pr.len true t93_90 else some LV.undef).bind fun t94_91 =>
 (pr.guard t91_88 false).bind fun b92 =>
 (if b92 = true then some a0 else some LV.undef).bind fun t95_92 =>
 (pr.guard t91_88 false).bind fun b93 =>
 (if b93 = true then pr.len true t95_92 else some LV.undef).bind fun t96_93 =>
 (pr.guard t91_88 false).bind fun b94 =>
 (if b94 = true then pr.bin .neq t94_91 t96_93 else some LV.undef).bind fun t97_94 =>
 (pr.pick t91_88 (LV.bool true) t97_94).bind fun t98_95 =>
 (pr.guard t98_95 false).bind fun b97 =>
 (if b97 = true then some t75_70 else some LV.undef).bind fun t100_97 =>
 (pr.guard t98_95 false).bind fun b98 =>
 (if b98 = true then some t53_44 else some LV.undef).bind fun t101_98 =>
 (pr.guard t98_95 false).bind fun b99 =>
 (if b99 = true then pr.bin .neq t100_97 t101_98 else some LV.undef).bind fun t102_99 =>
 (pr.pick t98_95 (LV.bool true) t102_99).bind fun t103_100 =>
 (pr.guard t103_100 false).bind fun b102 =>
 (if b102 = true then some t64_57 else some LV.undef).bind fun t105_102 =>
 (pr.guard t103_100 false).bind fun b103 =>
 (if b103 = true then some t32_18 else some LV.undef).bind fun t106_103 =>
 (pr.guard t103_100 false).bind fun b104 =>
 (if b104 = true then pr.call g id_tcp_Check u26.2 [t105_102, t106_103] else some LV.undef).bind fun t107_104 =>
 (pr.guard t103_100 false).bind fun b105 =>
 (if b105 = true then pr.eqNil 1 true t107_104 else some LV.undef).bind fun t108_105 =>
 (pr.pick t103_100 (LV.bool true) t108_105).bind fun t109_106 =>
 (pr.guard t109_106 false).bind fun b108 =>
 (if b108 = true then some t53_44 else some LV.undef).bind fun t111_108 =>
 (pr.guard t109_106 false).bind fun b109 =>
 (if b109 = true then pr.slc 0 t111_108 none (some (LV.int .i64 16)) else some LV.undef).bind fun t112_109 =>
 (pr.guard t109_106 false).bind fun b110 =>
 (if b110 = true then some a0 else some LV.undef).bind fun t113_110 =>
 (pr.guard t109_106 false).bind fun b111 =>
 (if b111 = true then pr.slc 0 t113_110 none (some (LV.int .i64 16)) else some LV.undef).bind fun t114_111 =>
 (pr.guard t109_106 false).bind fun b112 =>
 (if b112 = true then pr.bin .neq t112_109 t114_111 else some LV.undef).bind fun t115_112 =>
 (pr.pick t109_106 (LV.bool true) t115_112).bind fun t116_113 =>
 (pr.guard t116_113 false).bind fun b115 =>
 (if b115 = true then some t53_44 else some LV.undef).bind fun t118_115 =>
 (pr.guard t116_113 false).bind fun b116 =>
 (if b116 = true then pr.slc 0 t118_115 (some (LV.int .i64 18)) none else some LV.undef).bind fun t119_116 =>
 (pr.guard t116_113 false).bind fun b117 =>
 (if b117 = true then some a0 else some LV.undef).bind fun t120_117 =>
 (pr.guard t116_113 false).bind fun b118 =>
 (if b118 = true then pr.slc 0 t120_117 (some (LV.int .i64 18)) none else some LV.undef).bind fun t121_118 =>
 (pr.guard t116_113 false).bind fun b119 =>
 (if b119 = true then pr.bin .neq t119_116 t121_118 else some LV.undef).bind fun t122_119 =>
 (pr.pick t116_113 (LV.bool true) t122_119).bind fun t123_120 =>
 condK t123_120 (
 pr.fin none u26.2 [(LV.bool false)]) (
 (pr.call g id_tcp_Check u26.2 [a0, t32_18]).bind fun t126_124 =>
 (pr.eqNil 1 true t126_124).bind fun t127_125 =>
 (pr.guard t127_125 false).bind fun b127 =>
 (if b127 = true then some t53_44 else some LV.undef).bind fun t129_127 =>
 (pr.guard t127_125 false).bind fun b128 =>
 (if b128 = true then some a0 else some LV.undef).bind fun t130_128 =>
 (pr.guard t127_125 false).bind fun b129 =>
 (if b129 = true then pr.bin .eql t129_127 t130_128 else some LV.undef).bind fun t131_129 =>
 (pr.pick t127_125 (LV.bool true) t131_129).bind fun t132_130 =>
 (pr.guard t132_130 false).bind fun b132 =>
 (if b132 = true then some a0 else some LV.undef).bind fun t134_132 =>
 (pr.guard t132_130 false).bind fun b133 =>
 (if b133 = true then pr.slc 0 t134_132 (some (LV.int .i64 16)) (some (LV.int .i64 18)) else some LV.undef).bind fun t135_133 =>
 (pr.guard t132_130 false).bind fun b134 =>
 (if b134 = true then pr.bin .eql t135_133 (LV.str [255, 255]) else some LV.undef).bind fun t136_134 =>
 (pr.pick t132_130 (LV.bool true) t136_134).bind fun t137_135 =>
 pr.fin none u26.2 [t137_135]))))
theorem F_interpreterlaw06_TcpAgain_eq (g : Call) (a0 : LV) (a1 : LV) (a2 : LV) (a3 : LV) : fnEv g c_interpreterlaw06_TcpAgain [a0, a1, a2, a3] none = F_interpreterlaw06_TcpAgain g a0 a1 a2 a3 := by kernel_rfl

/-- interpreter/interpreterlaw06.TcpMoves -/
noncomputable def F_interpreterlaw06_TcpMoves (g : Call) (a0 : LV) (a1 : LV) (a2 : LV) : Option (LV × Option LV) :=
 (pr.box a0).bind fun t3_0 =>
 (pr.call g id_interpreterlaw06_awake noSlots []).bind fun t16_2 =>
 (pr.un .not t16_2).bind fun t17_3 =>
 condK t17_3 (
 pr.fin none noSlots [(LV.bool false)]) (
 (pr.fieldAddr 3 3 t3_0).bind fun t18_5 =>
 (pr.load 1 false noSlots t18_5).bind fun t19_6 =>
 (pr.len true t19_6).bind fun t20_7 =>
 (pr.bin .gtr t20_7 (LV.int .i64 3000)).bind fun t21_8 =>
 (pr.guard t21_8 false).bind fun b10 =>
 (if b10 = true then some a1 else some LV.undef).bind fun t23_10 =>
 (pr.guard t21_8 false).bind fun b11 =>
 (if b11 = true then pr.len true t23_10 else some LV.undef).bind fun t24_11 =>
 (pr.guard t21_8 false).bind fun b12 =>
 (if b12 = true then pr.bin .gtr t24_11 (LV.int .i64 100) else some LV.undef).bind fun t25_12 =>
 (pr.pick t21_8 (LV.bool true) t25_12).bind fun t26_13 =>
 (pr.guard t26_13 false).bind fun b15 =>
 (if b15 = true then some a2 else some LV.undef).bind fun t28_15 =>
 (pr.guard t26_13 false).bind fun b16 =>
 (if b16 = true then pr.len true t28_15 else some LV.undef).bind fun t29_16 =>
 (pr.guard t26_13 false).bind fun b17 =>
 (if b17 = true then pr.bin .gtr t29_16 (LV.int .i64 100) else some LV.undef).bind fun t30_17 =>
 (pr.pick t26_13 (LV.bool true) t30_17).bind fun t31_18 =>
 condK t31_18 (
 pr.fin none noSlots [(LV.bool true)]) (
 (pr.len true a1).bind fun t34_22 =>
 (pr.bin .quo t34_22 (LV.int .i64 2)).bind fun t35_23 =>
 (pr.bin .mul t35_23 (LV.int .i64 2)).bind fun t36_24 =>
 (pr.slc 0 a1 none (some t36_24)).bind fun t37_25 =>
 (pr.len true a2).bind fun t40_29 =>
 (pr.bin .quo t40_29 (LV.int .i64 2)).bind fun t41_30 =>
 (pr.bin .mul t41_30 (LV.int .i64 2)).bind fun t42_31 =>
 (pr.slc 0 a2 none (some t42_31)).bind fun t43_32 =>
 (pr.load 4 true noSlots t3_0).bind fun t45_34 =>
 (pr.call g id_tcp_Bytes noSlots [t45_34, t37_25]).bind fun t47_36 =>
 (pr.extract t47_36 0).bind fun t48_38 =>
 (pr.extract t47_36 1).bind fun t49_39 =>
 (pr.eqNil 1 true t49_39).bind fun t51_43 =>
 condK t51_43 (
 (pr.bin .eql t48_38 (LV.str [])).bind fun t53_45 =>
 pr.fin none noSlots [t53_45]) (
 (pr.call g id_tcp_Parse noSlots [t48_38]).bind fun t56_48 =>
 (pr.extract t56_48 0).bind fun t57_50 =>
 (pr.extract t56_48 1).bind fun t58_51 =>
 (pr.alloc (LV.agg [(LV.int .i64 0), (LV.int .i64 0), (LV.int .i64 0), (LV.str [])]) 9 noSlots).bind fun t9_52 =>
 (pr.store 4 true t9_52.2 t9_52.1 t57_50).bind fun u53 =>
 (pr.load 4 true u53.2 t9_52.1).bind fun t60_55 =>
 (pr.call g id_tcp_Bytes u53.2 [t60_55, t43_32]).bind fun t62_57 =>
 (pr.extract t62_57 0).bind fun t63_59 =>
 (pr.extract t62_57 1).bind fun t64_60 =>
 (pr.eqNil 1 true t58_51).bind fun t66_64 =>
 (pr.guard t66_64 false).bind fun b66 =>
 (if b66 = true then some t64_60 else some LV.undef).bind fun t68_66 =>
 (pr.guard t66_64 false).bind fun b67 =>
 (if b67 = true then pr.eqNil 1 true t68_66 else some LV.undef).bind fun t69_67 =>
 (pr.pick t66_64 (LV.bool true) t69_67).bind fun t70_68 =>
 (pr.guard t70_68 false).bind fun b70 =>
 (if b70 = true then some t48_38 else some LV.undef).bind fun t72_70 =>
 (pr.guard t70_68 false).bind fun b71 =>
 (if b71 = true then pr.len true t72_70 else some LV.undef).bind fun t73_71 =>
 (pr.guard t70_68 false).bind fun b72 =>
 (if b72 = true then pr.bin .lss t73_71 (LV.int .i64 20) else some LV.undef).bind fun t74_72 =>
 (pr.pick t70_68 (LV.bool true) t74_72).bind fun t75_73 =>
 (pr.guard t75_73 false).bind fun b75 =>
 (if b75 = true then some t63_59 else some LV.undef).bind fun t77_75 =>
 (pr.guard t75_73 false).bind fun b76 =>
 (if b76 = true then pr.len true t77_75 else some LV.undef).bind fun t78_76 =>
 (pr.guard t75_73 false).bind fun b77 =>
 (if b77 = true then some t48_38 else some LV.undef).bind fun t79_77 =>
 (pr.guard t75_73 false).bind fun b78 =>
 (if b78 = true then pr.len true t79_77 else some LV.undef).bind fun t80_78 =>
 (pr.guard t75_73 false).bind fun b79 =>
 (if b79 = true then pr.bin .neq t78_76 t80_78 else some LV.undef).bind fun t81_79 =>
 (pr.pick t75_73 (LV.bool true) t81_79).bind fun t82_80 =>
 (pr.guard t82_80 false).bind fun b82 =>
 (if b82 = true then some t63_59 else some LV.undef).bind fun t84_82 =>
 (pr.guard t82_80 false).bind fun b83 =>
 (if b83 = true then pr.slc 0 t84_82 none (some (LV.int .i64 16)) else some LV.undef).bind fun t85_83 =>
 (pr.guard t82_80 false).bind fun b84 =>
 (if b84 = true then some t48_38 else some LV.undef).bind fun t86_84 =>
 (pr.guard t82_80 false).bind fun b85 =>
 (if b85 = true then pr.slc 0 t86_84 none (some (LV.int .i64 16)) else some LV.undef).bind fun t87_85 =>
 (pr.guard t82_80 false).bind fun b86 =>
 (if b86 = true then pr.bin .neq t85_83 t87_85 else some LV.undef).bind fun t88_86 =>
 (pr.pick t82_80 (LV.bool true) t88_86).bind fun t89_87 =>
 (pr.guard t89_87 false).bind fun b89 =>
 (if b89 = true then some t63_59 else some LV.undef).bind fun t91_89 =>
 (pr.guard t89_87 false).bind fun b90 =>
 (if b90 = true then pr.slc 0 t91_89 (some (LV.int .i64 18)) none else some LV.undef).bind fun t92_90 =>
 (pr.guard t89_87 false).bind fun b91 =>
 (if b91 = true then some t48_38 else some LV.undef).bind fun t93_91 =>
 (pr.guard t89_87 false).bind fun b92 =>
 (if b92 = true then pr.slc 0 t93_91 (some (LV.int .i64 18)) none else some LV.undef).bind fun t94_92 =>
 (pr.guard t89_87 false).bind fun b93 =>
 (if b93 = true then pr.bin .neq t92_90 t94_92 else some LV.undef).bind fun t95_93 =>
 (pr.pick t89_87 (LV.bool true) t95_93).bind fun t96_94 =>
 condK t96_94 (
 pr.fin none u53.2 [(LV.bool false)]) (
 (pr.idxStr t48_38 (LV.int .i64 16)).bind fun t98_97 =>
 (pr.conv .i64 t98_97).bind fun t99_98 =>
 (pr.bin .mul t99_98 (LV.int .i64 256)).bind fun t100_99 =>
 (pr.idxStr t48_38 (LV.int .i64 17)).bind fun t102_101 =>
 (pr.conv .i64 t102_101).bind fun t103_102 =>
 (pr.bin .add t100_99 t103_102).bind fun t104_103 =>
 (pr.idxStr t63_59 (LV.int .i64 16)).bind fun t106_106 =>
 (pr.conv .i64 t106_106).bind fun t107_107 =>
 (pr.bin .mul t107_107 (LV.int .i64 256)).bind fun t108_108 =>
 (pr.idxStr t63_59 (LV.int .i64 17)).bind fun t110_110 =>
 (pr.conv .i64 t110_110).bind fun t111_111 =>
 (pr.bin .add t108_108 t111_111).bind fun t112_112 =>
 (pr.call g id_sum_Update u53.2 [t104_103, t37_25, t43_32]).bind fun t116_117 =>
 (pr.bin .eql t116_117 t112_112).bind fun t119_121 =>
 (pr.guard t119_121 false).bind fun b123 =>
 (if b123 = true then some t116_117 else some LV.undef).bind fun t121_123 =>
 (pr.guard t119_121 false).bind fun b124 =>
 (if b124 = true then some t112_112 else some LV.undef).bind fun t122_124 =>
 (pr.guard t119_121 false).bind fun b125 =>
 (if b125 = true then pr.bin .add t121_123 t122_124 else some LV.undef).bind fun t123_125 =>
 (pr.guard t119_121 false).bind fun b126 =>
 (if b126 = true then pr.bin .eql t123_125 (LV.int .i64 65535) else some LV.undef).bind fun t124_126 =>
 (pr.guard t119_121 false).bind fun b127 =>
 (if b127 = true then some t124_126 else some LV.undef).bind fun t125_127 =>
 (pr.guard t125_127 true).bind fun b128 =>
 (if b128 = true then some t116_117 else some LV.undef).bind fun t126_128 =>
 (pr.guard t125_127 true).bind fun b129 =>
 (if b129 = true then pr.bin .eql t126_128 (LV.int .i64 0) else some LV.undef).bind fun t127_129 =>
 (pr.guard t125_127 true).bind fun b130 =>
 (if b130 = true then some t127_129 else some LV.undef).bind fun t128_130 =>
 (pr.guard t128_130 false).bind fun b131 =>
 (if b131 = true then some t112_112 else some LV.undef).bind fun t129_131 =>
 (pr.guard t128_130 false).bind fun b132 =>
 (if b132 = true then pr.bin .eql t129_131 (LV.int .i64 0) else some LV.undef).bind fun t130_132 =>
 (pr.guard t125_127 true).bind fun b133 =>
 (if b133 = true then pr.pick t128_130 (LV.bool true) t130_132 else some LV.undef).bind fun t131_133 =>
 (pr.guard t119_121 false).bind fun b134 =>
 (if b134 = true then pr.pick t125_127 t131_133 (LV.bool false) else some LV.undef).bind fun t132_134 =>
 (pr.pick t119_121 (LV.bool true) t132_134).bind fun t133_135 =>
 pr.fin none u53.2 [t133_135]))))
theorem F_interpreterlaw06_TcpMoves_eq (g : Call) (a0 : LV) (a1 : LV) (a2 : LV) : fnEv g c_interpreterlaw06_TcpMoves [a0, a1, a2] none = F_interpreterlaw06_TcpMoves g a0 a1 a2 := by kernel_rfl

/-- interpreter/interpreterlaw05.UdpKnown -/
noncomputable def F_interpreterlaw05_UdpKnown (g : Call) : Option (LV × Option LV) :=
 (pr.call g id_udp_Parse noSlots [(LV.str [49, 50, 51, 52, 53, 54, 55])]).bind fun t13_1 =>
 (pr.extract t13_1 0).bind fun t14_3 =>
 (pr.extract t13_1 1).bind fun t15_4 =>
 (pr.alloc (LV.agg [(LV.int .i64 0), (LV.int .i64 0), (LV.int .i64 0), (LV.str [])]) 1 noSlots).bind fun t1_5 =>
 (pr.store 4 true t1_5.2 t1_5.1 t14_3).bind fun u6 =>
 (pr.call g id_udp_Parse u6.2 [(LV.str [0, 1, 0, 2, 0, 9, 0, 0])]).bind fun t17_8 =>
 (pr.extract t17_8 0).bind fun t18_10 =>
 (pr.extract t17_8 1).bind fun t19_11 =>
 (pr.alloc (LV.agg [(LV.int .i64 0), (LV.int .i64 0), (LV.int .i64 0), (LV.str [])]) 3 u6.2).bind fun t3_12 =>
 (pr.store 4 true t3_12.2 t3_12.1 t18_10).bind fun u13 =>
 (pr.call g id_udp_Check u13.2 [(LV.str [0, 1, 0, 2, 0, 8, 0, 0]), (LV.str [])]).bind fun t20_15 =>
 (pr.call g id_strings_Repeat u13.2 [(LV.str [120]), (LV.int .i64 65528)]).bind fun t22_17 =>
 (pr.parts (LV.agg [(LV.int .i64 0), (LV.int .i64 0), (LV.int .i64 0), (LV.str [])]) [(3, t22_17)]).bind fun t23_18 =>
 (pr.call g id_udp_Bytes u13.2 [t23_18, (LV.str [])]).bind fun t24_19 =>
 (pr.extract t24_19 0).bind fun t25_21 =>
 (pr.extract t24_19 1).bind fun t26_22 =>
 (pr.call g id_strings_Repeat u13.2 [(LV.str [120]), (LV.int .i64 65527)]).bind fun t28_25 =>
 (pr.parts (LV.agg [(LV.int .i64 0), (LV.int .i64 0), (LV.int .i64 0), (LV.str [])]) [(3, t28_25)]).bind fun t29_26 =>
 (pr.call g id_udp_Bytes u13.2 [t29_26, (LV.str [])]).bind fun t30_27 =>
 (pr.extract t30_27 0).bind fun t31_29 =>
 (pr.extract t30_27 1).bind fun t32_30 =>
 (pr.parts (LV.agg [(LV.int .i64 0), (LV.int .i64 0), (LV.int .i64 0), (LV.str [])]) [(1, (LV.int .i64 65536))]).bind fun t34_33 =>
 (pr.call g id_udp_Bytes u13.2 [t34_33, (LV.str [])]).bind fun t35_34 =>
 (pr.extract t35_34 0).bind fun t36_36 =>
 (pr.extract t35_34 1).bind fun t37_37 =>
 (pr.call g id_interpreterlaw05_awake u13.2 []).bind fun t38_40 =>
 (pr.guard t38_40 true).bind fun b42 =>
 (if b42 = true then some t15_4 else some LV.undef).bind fun t40_42 =>
 (pr.guard t38_40 true).bind fun b43 =>
 (if b43 = true then pr.call g id_interpreterlaw05_same u13.2 [t40_42, (LV.int .i64 7)] else some LV.undef).bind fun t41_43 =>
 (pr.pick t38_40 t41_43 (LV.bool false)).bind fun t42_44 =>
 (pr.guard t42_44 true).bind fun b46 =>
 (if b46 = true then some t19_11 else some LV.undef).bind fun t44_46 =>
 (pr.guard t42_44 true).bind fun b47 =>
 (if b47 = true then pr.call g id_interpreterlaw05_same u13.2 [t44_46, (LV.int .i64 8)] else some LV.undef).bind fun t45_47 =>
 (pr.pick t42_44 t45_47 (LV.bool false)).bind fun t46_48 =>
 (pr.guard t46_48 true).bind fun b50 =>
 (if b50 = true then some t20_15 else some LV.undef).bind fun t48_50 =>
 (pr.guard t46_48 true).bind fun b51 =>
 (if b51 = true then pr.call g id_interpreterlaw05_same u13.2 [t48_50, (LV.int .i64 4)] else some LV.undef).bind fun t49_51 =>
 (pr.pick t46_48 t49_51 (LV.bool false)).bind fun t50_52 =>
 (pr.guard t50_52 true).bind fun b54 =>
 (if b54 = true then some t26_22 else some LV.undef).bind fun t52_54 =>
 (pr.guard t50_52 true).bind fun b55 =>
 (if b55 = true then pr.call g id_interpreterlaw05_same u13.2 [t52_54, (LV.int .i64 3)] else some LV.undef).bind fun t53_55 =>
 (pr.pick t50_52 t53_55 (LV.bool false)).bind fun t54_56 =>
 (pr.guard t54_56 true).bind fun b58 =>
 (if b58 = true then some t32_30 else some LV.undef).bind fun t56_58 =>
 (pr.guard t54_56 true).bind fun b59 =>
 (if b59 = true then pr.eqNil 1 false t56_58 else some LV.undef).bind fun t57_59 =>
 (pr.pick t54_56 t57_59 (LV.bool false)).bind fun t58_60 =>
 (pr.guard t58_60 true).bind fun b62 =>
 (if b62 = true then some t37_37 else some LV.undef).bind fun t60_62 =>
 (pr.guard t58_60 true).bind fun b63 =>
 (if b63 = true then pr.call g id_interpreterlaw05_same u13.2 [t60_62, (LV.int .i64 13)] else some LV.undef).bind fun t61_63 =>
 (pr.pick t58_60 t61_63 (LV.bool false)).bind fun t62_64 =>
 pr.fin none u13.2 [t62_64]
theorem F_interpreterlaw05_UdpKnown_eq (g : Call) : fnEv g c_interpreterlaw05_UdpKnown [] none = F_interpreterlaw05_UdpKnown g := by kernel_rfl

/-- interpreter/interpreterlaw05.awake -/
noncomputable def F_interpreterlaw05_awake (g : Call) : Option (LV × Option LV) :=
 (pr.parts (LV.agg [(LV.int .i64 0), (LV.int .i64 0), (LV.int .i64 0), (LV.str [])]) [(0, (LV.int .i64 1)), (1, (LV.int .i64 2)), (3, (LV.str [104, 105]))]).bind fun t6_1 =>
 (pr.call g id_udp_Bytes noSlots [t6_1, (LV.str [])]).bind fun t7_2 =>
 (pr.extract t7_2 0).bind fun t8_4 =>
 (pr.extract t7_2 1).bind fun t9_5 =>
 (pr.call g id_udp_Parse noSlots [t8_4]).bind fun t12_9 =>
 (pr.extract t12_9 0).bind fun t13_11 =>
 (pr.extract t12_9 1).bind fun t14_12 =>
 (pr.alloc (LV.agg [(LV.int .i64 0), (LV.int .i64 0), (LV.int .i64 0), (LV.str [])]) 3 noSlots).bind fun t3_13 =>
 (pr.store 4 true t3_13.2 t3_13.1 t13_11).bind fun u14 =>
 (pr.eqNil 1 false t9_5).bind fun t16_17 =>
 (pr.guard t16_17 true).bind fun b19 =>
 (if b19 = true then some t14_12 else some LV.undef).bind fun t18_19 =>
 (pr.guard t16_17 true).bind fun b20 =>
 (if b20 = true then pr.eqNil 1 false t18_19 else some LV.undef).bind fun t19_20 =>
 (pr.pick t16_17 t19_20 (LV.bool false)).bind fun t20_21 =>
 (pr.guard t20_21 true).bind fun b23 =>
 (if b23 = true then some t8_4 else some LV.undef).bind fun t22_23 =>
 (pr.guard t20_21 true).bind fun b24 =>
 (if b24 = true then pr.bin .eql t22_23 (LV.str [0, 1, 0, 2, 0, 10, 151, 137, 104, 105]) else some LV.undef).bind fun t23_24 =>
 (pr.pick t20_21 t23_24 (LV.bool false)).bind fun t24_25 =>
 (pr.guard t24_25 true).bind fun b27 =>
 (if b27 = true then pr.load 4 true u14.2 t3_13.1 else some LV.undef).bind fun t26_27 =>
 (pr.guard t24_25 true).bind fun b28 =>
 (if b28 = true then pr.parts (LV.agg [(LV.int .i64 0), (LV.int .i64 0), (LV.int .i64 0), (LV.str [])]) [(0, (LV.int .i64 1)), (1, (LV.int .i64 2)), (2, (LV.int .i64 38793)), (3, (LV.str [104, 105]))] else some LV.undef).bind fun t27_28 =>
 (pr.guard t24_25 true).bind fun b29 =>
 (if b29 = true then pr.eqS (Sh.agg [(Sh.int .i64), (Sh.int .i64), (Sh.int .i64), Sh.str]) false t26_27 t27_28 else some LV.undef).bind fun t28_29 =>
 (pr.pick t24_25 t28_29 (LV.bool false)).bind fun t29_30 =>
 pr.fin none u14.2 [t29_30]
theorem F_interpreterlaw05_awake_eq (g : Call) : fnEv g c_interpreterlaw05_awake [] none = F_interpreterlaw05_awake g := by kernel_rfl

/-- interpreter/udp.Bytes -/
noncomputable def F_udp_Bytes (g : Call) (a0 : LV) (a1 : LV) : Option (LV × Option LV) :=
 (pr.box a0).bind fun t2_0 =>
 (pr.fieldAddr 0 0 t2_0).bind fun t13_3 =>
 (pr.load 1 false noSlots t13_3).bind fun t14_4 =>
 (pr.call g id_num_Big noSlots [t14_4, (LV.int .i64 2)]).bind fun t15_5 =>
 (pr.extract t15_5 0).bind fun t16_7 =>
 (pr.extract t15_5 1).bind fun t17_8 =>
 (pr.eqNil 1 true t17_8).bind fun t19_12 =>
 condK t19_12 (
 pr.fin none noSlots [(LV.str []), t17_8]) (
 (pr.fieldAddr 1 1 t2_0).bind fun t22_16 =>
 (pr.load 1 false noSlots t22_16).bind fun t23_17 =>
 (pr.call g id_num_Big noSlots [t23_17, (LV.int .i64 2)]).bind fun t24_18 =>
 (pr.extract t24_18 0).bind fun t25_20 =>
 (pr.extract t24_18 1).bind fun t26_21 =>
 (pr.eqNil 1 true t26_21).bind fun t28_25 =>
 condK t28_25 (
 pr.fin none noSlots [(LV.str []), t26_21]) (
 (pr.fieldAddr 3 3 t2_0).bind fun t31_29 =>
 (pr.load 1 false noSlots t31_29).bind fun t32_30 =>
 (pr.len true t32_30).bind fun t33_31 =>
 (pr.bin .add (LV.int .i64 8) t33_31).bind fun t34_32 =>
 (pr.call g id_num_Big noSlots [t34_32, (LV.int .i64 2)]).bind fun t35_33 =>
 (pr.extract t35_33 0).bind fun t36_35 =>
 (pr.extract t35_33 1).bind fun t37_36 =>
 (pr.eqNil 1 true t37_36).bind fun t39_40 =>
 condK t39_40 (
 (pr.call g id_udp_fault noSlots [(LV.int .i64 3)]).bind fun t40_41 =>
 pr.fin none noSlots [(LV.str []), t40_41]) (
 (pr.fieldAddr 3 3 t2_0).bind fun t45_48 =>
 (pr.load 1 false noSlots t45_48).bind fun t46_49 =>
 (pr.bsl (LV.str []) 6 [(0, a1), (1, t16_7), (2, t25_20), (3, t36_35), (4, (LV.str [0, 0])), (5, t46_49)]).bind fun t47_50 =>
 (pr.call g id_sum_Of noSlots [t47_50]).bind fun t48_51 =>
 (pr.bin .eql t48_51 (LV.int .i64 0)).bind fun t50_54 =>
 condK t50_54 (
 (pr.call g id_num_Big noSlots [(LV.int .i64 65535), (LV.int .i64 2)]).bind fun t53_57 =>
 (pr.extract t53_57 0).bind fun t54_59 =>
 (pr.extract t53_57 1).bind fun t55_60 =>
 (pr.bin .add t16_7 t25_20).bind fun t58_65 =>
 (pr.bin .add t58_65 t36_35).bind fun t60_67 =>
 (pr.bin .add t60_67 t54_59).bind fun t62_69 =>
 (pr.fieldAddr 3 3 t2_0).bind fun t63_70 =>
 (pr.load 1 false noSlots t63_70).bind fun t64_71 =>
 (pr.bin .add t62_69 t64_71).bind fun t65_72 =>
 pr.fin none noSlots [t65_72, t55_60]) (
 (pr.call g id_num_Big noSlots [t48_51, (LV.int .i64 2)]).bind fun t53_77 =>
 (pr.extract t53_77 0).bind fun t54_79 =>
 (pr.extract t53_77 1).bind fun t55_80 =>
 (pr.bin .add t16_7 t25_20).bind fun t58_85 =>
 (pr.bin .add t58_85 t36_35).bind fun t60_87 =>
 (pr.bin .add t60_87 t54_79).bind fun t62_89 =>
 (pr.fieldAddr 3 3 t2_0).bind fun t63_90 =>
 (pr.load 1 false noSlots t63_90).bind fun t64_91 =>
 (pr.bin .add t62_89 t64_91).bind fun t65_92 =>
 pr.fin none noSlots [t65_92, t55_80]))))
theorem F_udp_Bytes_eq (g : Call) (a0 : LV) (a1 : LV) : fnEv g c_udp_Bytes [a0, a1] none = F_udp_Bytes g a0 a1 := by kernel_rfl

/-- interpreter/interpreterref05.Bytes -/
noncomputable def F_interpreterref05_Bytes (g : Call) (a0 : LV) (a1 : LV) : Option (LV × Option LV) :=
 (pr.box a0).bind fun t2_0 =>
 (pr.fieldAddr 0 0 t2_0).bind fun t8_3 =>
 (pr.load 1 false noSlots t8_3).bind fun t9_4 =>
 (pr.bin .lss t9_4 (LV.int .i64 0)).bind fun t10_5 =>
 (pr.guard t10_5 false).bind fun b7 =>
 (if b7 = true then pr.fieldAddr 0 0 t2_0 else some LV.undef).bind fun t12_7 =>
 (pr.guard t10_5 false).bind fun b8 =>
 (if b8 = true then pr.load 1 false noSlots t12_7 else some LV.undef).bind fun t13_8 =>
 (pr.guard t10_5 false).bind fun b9 =>
 (if b9 = true then pr.bin .gtr t13_8 (LV.int .i64 65535) else some LV.undef).bind fun t14_9 =>
 (pr.pick t10_5 (LV.bool true) t14_9).bind fun t15_10 =>
 (pr.guard t15_10 false).bind fun b12 =>
 (if b12 = true then pr.fieldAddr 1 1 t2_0 else some LV.undef).bind fun t17_12 =>
 (pr.guard t15_10 false).bind fun b13 =>
 (if b13 = true then pr.load 1 false noSlots t17_12 else some LV.undef).bind fun t18_13 =>
 (pr.guard t15_10 false).bind fun b14 =>
 (if b14 = true then pr.bin .lss t18_13 (LV.int .i64 0) else some LV.undef).bind fun t19_14 =>
 (pr.pick t15_10 (LV.bool true) t19_14).bind fun t20_15 =>
 (pr.guard t20_15 false).bind fun b17 =>
 (if b17 = true then pr.fieldAddr 1 1 t2_0 else some LV.undef).bind fun t22_17 =>
 (pr.guard t20_15 false).bind fun b18 =>
 (if b18 = true then pr.load 1 false noSlots t22_17 else some LV.undef).bind fun t23_18 =>
 (pr.guard t20_15 false).bind fun b19 =>
 (if b19 = true then pr.bin .gtr t23_18 (LV.int .i64 65535) else some LV.undef).bind fun t24_19 =>
 (pr.pick t20_15 (LV.bool true) t24_19).bind fun t25_20 =>
 condK t25_20 (
 pr.fin none noSlots [(LV.str []), (LV.int .i64 13)]) (
 (pr.fieldAddr 3 3 t2_0).bind fun t26_23 =>
 (pr.load 1 false noSlots t26_23).bind fun t27_24 =>
 (pr.len true t27_24).bind fun t28_25 =>
 (pr.bin .gtr t28_25 (LV.int .i64 65527)).bind fun t29_26 =>
 condK t29_26 (
 pr.fin none noSlots [(LV.str []), (LV.int .i64 3)]) (
 (pr.fieldAddr 0 0 t2_0).bind fun t30_29 =>
 (pr.load 1 false noSlots t30_29).bind fun t31_30 =>
 (pr.call g id_interpreterref05_two noSlots [t31_30]).bind fun t32_31 =>
 (pr.fieldAddr 1 1 t2_0).bind fun t33_32 =>
 (pr.load 1 false noSlots t33_32).bind fun t34_33 =>
 (pr.call g id_interpreterref05_two noSlots [t34_33]).bind fun t35_34 =>
 (pr.bin .add t32_31 t35_34).bind fun t36_35 =>
 (pr.fieldAddr 3 3 t2_0).bind fun t37_36 =>
 (pr.load 1 false noSlots t37_36).bind fun t38_37 =>
 (pr.len true t38_37).bind fun t39_38 =>
 (pr.bin .add (LV.int .i64 8) t39_38).bind fun t40_39 =>
 (pr.call g id_interpreterref05_two noSlots [t40_39]).bind fun t41_40 =>
 (pr.bin .add t36_35 t41_40).bind fun t42_41 =>
 (pr.bin .add a1 t42_41).bind fun t45_45 =>
 (pr.call g id_interpreterref05_two noSlots [(LV.int .i64 0)]).bind fun t46_46 =>
 (pr.bin .add t45_45 t46_46).bind fun t47_47 =>
 (pr.fieldAddr 3 3 t2_0).bind fun t48_48 =>
 (pr.load 1 false noSlots t48_48).bind fun t49_49 =>
 (pr.bin .add t47_47 t49_49).bind fun t50_50 =>
 (pr.call g id_interpreterref02_Of noSlots [t50_50]).bind fun t51_51 =>
 (pr.bin .eql t51_51 (LV.int .i64 0)).bind fun t53_54 =>
 condK t53_54 (
 (pr.call g id_interpreterref05_two noSlots [(LV.int .i64 65535)]).bind fun t56_58 =>
 (pr.bin .add t42_41 t56_58).bind fun t57_59 =>
 (pr.fieldAddr 3 3 t2_0).bind fun t58_60 =>
 (pr.load 1 false noSlots t58_60).bind fun t59_61 =>
 (pr.bin .add t57_59 t59_61).bind fun t60_62 =>
 pr.fin none noSlots [t60_62, (LV.int .i64 0)]) (
 (pr.call g id_interpreterref05_two noSlots [t51_51]).bind fun t56_67 =>
 (pr.bin .add t42_41 t56_67).bind fun t57_68 =>
 (pr.fieldAddr 3 3 t2_0).bind fun t58_69 =>
 (pr.load 1 false noSlots t58_69).bind fun t59_70 =>
 (pr.bin .add t57_68 t59_70).bind fun t60_71 =>
 pr.fin none noSlots [t60_71, (LV.int .i64 0)])))
theorem F_interpreterref05_Bytes_eq (g : Call) (a0 : LV) (a1 : LV) : fnEv g c_interpreterref05_Bytes [a0, a1] none = F_interpreterref05_Bytes g a0 a1 := by kernel_rfl

/-- interpreter/interpreterlaw05.same -/
noncomputable def F_interpreterlaw05_same (g : Call) (a0 : LV) (a1 : LV) : Option (LV × Option LV) :=
 (pr.bin .eql a1 (LV.int .i64 0)).bind fun t8_2 =>
 condK t8_2 (
 (pr.eqNil 1 false a0).bind fun t10_4 =>
 pr.fin none noSlots [t10_4]) (
 (pr.assert ty_ptr_num_Fault true LV.nilp a0).bind fun t13_7 =>
 (pr.extract t13_7 0).bind fun t14_9 =>
 (pr.extract t13_7 1).bind fun t15_10 =>
 (pr.guard t15_10 true).bind fun b15 =>
 (if b15 = true then some t14_9 else some LV.undef).bind fun t18_15 =>
 (pr.guard t15_10 true).bind fun b16 =>
 (if b16 = true then pr.eqNil 0 true t18_15 else some LV.undef).bind fun t19_16 =>
 (pr.pick t15_10 t19_16 (LV.bool false)).bind fun t20_17 =>
 (pr.guard t20_17 true).bind fun b19 =>
 (if b19 = true then some t14_9 else some LV.undef).bind fun t22_19 =>
 (pr.guard t20_17 true).bind fun b20 =>
 (if b20 = true then pr.nilCheck t22_19 else some LV.undef).bind fun t23_20 =>
 (pr.guard t20_17 true).bind fun b21 =>
 (if b21 = true then pr.fieldAddr 0 0 t23_20 else some LV.undef).bind fun t24_21 =>
 (pr.guard t20_17 true).bind fun b22 =>
 (if b22 = true then pr.load 1 false noSlots t24_21 else some LV.undef).bind fun t25_22 =>
 (pr.guard t20_17 true).bind fun b23 =>
 (if b23 = true then some a1 else some LV.undef).bind fun t26_23 =>
 (pr.guard t20_17 true).bind fun b24 =>
 (if b24 = true then pr.bin .eql t25_22 t26_23 else some LV.undef).bind fun t27_24 =>
 (pr.pick t20_17 t27_24 (LV.bool false)).bind fun t28_25 =>
 (pr.guard t28_25 true).bind fun b27 =>
 (if b27 = true then some t14_9 else some LV.undef).bind fun t30_27 =>
 (pr.guard t28_25 true).bind fun b28 =>
 (if b28 = true then pr.nilCheck t30_27 else some LV.undef).bind fun t31_28 =>
 (pr.guard t28_25 true).bind fun b29 =>
 (if b29 = true then pr.fieldAddr 1 1 t31_28 else some LV.undef).bind fun t32_29 =>
 (pr.guard t28_25 true).bind fun b30 =>
 (if b30 = true then pr.load 1 false noSlots t32_29 else some LV.undef).bind fun t33_30 =>
 (pr.guard t28_25 true).bind fun b31 =>
 (if b31 = true then pr.bin .eql t33_30 (LV.int .i64 0) else some LV.undef).bind fun t34_31 =>
 (pr.pick t28_25 t34_31 (LV.bool false)).bind fun t35_32 =>
 pr.fin none noSlots [t35_32])
theorem F_interpreterlaw05_same_eq (g : Call) (a0 : LV) (a1 : LV) : fnEv g c_interpreterlaw05_same [a0, a1] none = F_interpreterlaw05_same g a0 a1 := by kernel_rfl

/-- interpreter/udp.Parse -/
noncomputable def F_udp_Parse (g : Call) (a0 : LV) : Option (LV × Option LV) :=
 (pr.alloc (LV.agg [(LV.int .i64 0), (LV.int .i64 0), (LV.int .i64 0), (LV.str [])]) 2 noSlots).bind fun t2_0 =>
 (pr.len true a0).bind fun t6_3 =>
 (pr.bin .lss t6_3 (LV.int .i64 8)).bind fun t7_4 =>
 condK t7_4 (
 (pr.parts (LV.agg [(LV.int .i64 0), (LV.int .i64 0), (LV.int .i64 0), (LV.str [])]) []).bind fun t8_6 =>
 (pr.call g id_udp_fault t2_0.2 [(LV.int .i64 7)]).bind fun t9_7 =>
 (pr.store 4 true t2_0.2 t2_0.1 t8_6).bind fun u8 =>
 (pr.load 4 true u8.2 t2_0.1).bind fun v10 =>
 pr.fin none u8.2 [v10, t9_7]) (
 (pr.call g id_udp_two t2_0.2 [a0, (LV.int .i64 4)]).bind fun t12_12 =>
 (pr.len true a0).bind fun t14_14 =>
 (pr.bin .neq t12_12 t14_14).bind fun t15_15 =>
 condK t15_15 (
 (pr.parts (LV.agg [(LV.int .i64 0), (LV.int .i64 0), (LV.int .i64 0), (LV.str [])]) []).bind fun t16_17 =>
 (pr.call g id_udp_fault t2_0.2 [(LV.int .i64 8)]).bind fun t17_18 =>
 (pr.store 4 true t2_0.2 t2_0.1 t16_17).bind fun u19 =>
 (pr.load 4 true u19.2 t2_0.1).bind fun v21 =>
 pr.fin none u19.2 [v21, t17_18]) (
 (pr.call g id_udp_two t2_0.2 [a0, (LV.int .i64 0)]).bind fun t19_23 =>
 (pr.call g id_udp_two t2_0.2 [a0, (LV.int .i64 2)]).bind fun t21_25 =>
 (pr.call g id_udp_two t2_0.2 [a0, (LV.int .i64 6)]).bind fun t23_27 =>
 (pr.slc 0 a0 (some (LV.int .i64 8)) none).bind fun t25_29 =>
 (pr.parts (LV.agg [(LV.int .i64 0), (LV.int .i64 0), (LV.int .i64 0), (LV.str [])]) [(0, t19_23), (1, t21_25), (2, t23_27), (3, t25_29)]).bind fun t26_30 =>
 (pr.store 4 true t2_0.2 t2_0.1 t26_30).bind fun u31 =>
 (pr.load 4 true u31.2 t2_0.1).bind fun v33 =>
 pr.fin none u31.2 [v33, LV.nili]))
theorem F_udp_Parse_eq (g : Call) (a0 : LV) : fnEv g c_udp_Parse [a0] none = F_udp_Parse g a0 := by kernel_rfl

/-- interpreter/interpreterref05.Parse -/
noncomputable def F_interpreterref05_Parse (g : Call) (a0 : LV) : Option (LV × Option LV) :=
 (pr.alloc (LV.agg [(LV.int .i64 0), (LV.int .i64 0), (LV.int .i64 0), (LV.str [])]) 2 noSlots).bind fun t2_0 =>
 (pr.len true a0).bind fun t6_3 =>
 (pr.bin .lss t6_3 (LV.int .i64 8)).bind fun t7_4 =>
 condK t7_4 (
 (pr.parts (LV.agg [(LV.int .i64 0), (LV.int .i64 0), (LV.int .i64 0), (LV.str [])]) []).bind fun t8_5 =>
 (pr.store 4 true t2_0.2 t2_0.1 t8_5).bind fun u6 =>
 (pr.load 4 true u6.2 t2_0.1).bind fun v8 =>
 pr.fin none u6.2 [v8, (LV.int .i64 7)]) (
 (pr.slc 0 a0 none (some (LV.int .i64 8))).bind fun t10_10 =>
 (pr.call g id_interpreterref02_Words t2_0.2 [t10_10]).bind fun t11_11 =>
 (pr.idxAddr none 1 t11_11 (LV.int .i64 2)).bind fun t13_14 =>
 (pr.load 1 false t2_0.2 t13_14).bind fun t14_15 =>
 (pr.len true a0).bind fun t16_17 =>
 (pr.bin .neq t14_15 t16_17).bind fun t17_18 =>
 condK t17_18 (
 (pr.parts (LV.agg [(LV.int .i64 0), (LV.int .i64 0), (LV.int .i64 0), (LV.str [])]) []).bind fun t18_19 =>
 (pr.store 4 true t2_0.2 t2_0.1 t18_19).bind fun u20 =>
 (pr.load 4 true u20.2 t2_0.1).bind fun v22 =>
 pr.fin none u20.2 [v22, (LV.int .i64 8)]) (
 (pr.idxAddr none 1 t11_11 (LV.int .i64 0)).bind fun t20_24 =>
 (pr.load 1 false t2_0.2 t20_24).bind fun t21_25 =>
 (pr.idxAddr none 1 t11_11 (LV.int .i64 1)).bind fun t23_27 =>
 (pr.load 1 false t2_0.2 t23_27).bind fun t24_28 =>
 (pr.idxAddr none 1 t11_11 (LV.int .i64 3)).bind fun t26_30 =>
 (pr.load 1 false t2_0.2 t26_30).bind fun t27_31 =>
 (pr.slc 0 a0 (some (LV.int .i64 8)) none).bind fun t29_33 =>
 (pr.parts (LV.agg [(LV.int .i64 0), (LV.int .i64 0), (LV.int .i64 0), (LV.str [])]) [(0, t21_25), (1, t24_28), (2, t27_31), (3, t29_33)]).bind fun t30_34 =>
 (pr.store 4 true t2_0.2 t2_0.1 t30_34).bind fun u35 =>
 (pr.load 4 true u35.2 t2_0.1).bind fun v37 =>
 pr.fin none u35.2 [v37, (LV.int .i64 0)]))
theorem F_interpreterref05_Parse_eq (g : Call) (a0 : LV) : fnEv g c_interpreterref05_Parse [a0] none = F_interpreterref05_Parse g a0 := by kernel_rfl

/-- interpreter/udp.Check -/
noncomputable def F_udp_Check (g : Call) (a0 : LV) (a1 : LV) : Option (LV × Option LV) :=
 (pr.call g id_udp_Parse noSlots [a0]).bind fun t9_2 =>
 (pr.extract t9_2 0).bind fun t10_4 =>
 (pr.extract t9_2 1).bind fun t11_5 =>
 (pr.alloc (LV.agg [(LV.int .i64 0), (LV.int .i64 0), (LV.int .i64 0), (LV.str [])]) 5 noSlots).bind fun t5_6 =>
 (pr.store 4 true t5_6.2 t5_6.1 t10_4).bind fun u7 =>
 (pr.eqNil 1 true t11_5).bind fun t14_10 =>
 condK t14_10 (
 pr.fin none u7.2 [t11_5]) (
 (pr.fieldAddr 2 2 t5_6.1).bind fun t17_14 =>
 (pr.load 1 false u7.2 t17_14).bind fun t18_15 =>
 (pr.bin .eql t18_15 (LV.int .i64 0)).bind fun t19_16 =>
 condK t19_16 (
 (pr.call g id_udp_fault u7.2 [(LV.int .i64 4)]).bind fun t20_18 =>
 pr.fin none u7.2 [t20_18]) (
 (pr.bsl (LV.str []) 2 [(0, a1), (1, a0)]).bind fun t24_22 =>
 (pr.call g id_sum_Right u7.2 [t24_22]).bind fun t25_23 =>
 (pr.un .not t25_23).bind fun t26_24 =>
 condK t26_24 (
 (pr.call g id_udp_fault u7.2 [(LV.int .i64 9)]).bind fun t27_26 =>
 pr.fin none u7.2 [t27_26]) (
 pr.fin none u7.2 [LV.nili])))
theorem F_udp_Check_eq (g : Call) (a0 : LV) (a1 : LV) : fnEv g c_udp_Check [a0, a1] none = F_udp_Check g a0 a1 := by kernel_rfl

/-- interpreter/interpreterref05.Check -/
noncomputable def F_interpreterref05_Check (g : Call) (a0 : LV) (a1 : LV) : Option (LV × Option LV) :=
 (pr.call g id_interpreterref05_Parse noSlots [a0]).bind fun t9_2 =>
 (pr.extract t9_2 0).bind fun t10_4 =>
 (pr.extract t9_2 1).bind fun t11_5 =>
 (pr.alloc (LV.agg [(LV.int .i64 0), (LV.int .i64 0), (LV.int .i64 0), (LV.str [])]) 5 noSlots).bind fun t5_6 =>
 (pr.store 4 true t5_6.2 t5_6.1 t10_4).bind fun u7 =>
 (pr.bin .neq t11_5 (LV.int .i64 0)).bind fun t13_10 =>
 condK t13_10 (
 pr.fin none u7.2 [t11_5]) (
 (pr.fieldAddr 2 2 t5_6.1).bind fun t15_13 =>
 (pr.load 1 false u7.2 t15_13).bind fun t16_14 =>
 (pr.bin .eql t16_14 (LV.int .i64 0)).bind fun t17_15 =>
 condK t17_15 (
 pr.fin none u7.2 [(LV.int .i64 4)]) (
 (pr.bin .add a1 a0).bind fun t20_19 =>
 (pr.call g id_interpreterref02_Of u7.2 [t20_19]).bind fun t21_20 =>
 (pr.bin .neq t21_20 (LV.int .i64 0)).bind fun t22_21 =>
 condK t22_21 (
 pr.fin none u7.2 [(LV.int .i64 9)]) (
 pr.fin none u7.2 [(LV.int .i64 0)])))
theorem F_interpreterref05_Check_eq (g : Call) (a0 : LV) (a1 : LV) : fnEv g c_interpreterref05_Check [a0, a1] none = F_interpreterref05_Check g a0 a1 := by kernel_rfl

/-- interpreter/sum.Right -/
noncomputable def F_sum_Right (g : Call) (a0 : LV) : Option (LV × Option LV) :=
 (pr.call g id_sum_Of noSlots [a0]).bind fun t4_2 =>
 (pr.bin .eql t4_2 (LV.int .i64 0)).bind fun t5_3 =>
 pr.fin none noSlots [t5_3]
theorem F_sum_Right_eq (g : Call) (a0 : LV) : fnEv g c_sum_Right [a0] none = F_sum_Right g a0 := by kernel_rfl

/-- interpreter/tcp.Parse -/
noncomputable def F_tcp_Parse (g : Call) (a0 : LV) : Option (LV × Option LV) :=
 (pr.alloc (LV.agg [(LV.int .i64 0), (LV.int .i64 0), (LV.int .i64 0), (LV.str [])]) 2 noSlots).bind fun t2_0 =>
 (pr.len true a0).bind fun t6_3 =>
 (pr.bin .lss t6_3 (LV.int .i64 20)).bind fun t7_4 =>
 condK t7_4 (
 (pr.parts (LV.agg [(LV.int .i64 0), (LV.int .i64 0), (LV.int .i64 0), (LV.str [])]) []).bind fun t8_5 =>
 (pr.call g id_tcp_fault t2_0.2 [(LV.int .i64 7)]).bind fun t9_6 =>
 (pr.store 4 true t2_0.2 t2_0.1 t8_5).bind fun u7 =>
 (pr.load 4 true u7.2 t2_0.1).bind fun v9 =>
 pr.fin none u7.2 [v9, t9_6]) (
 (pr.idxStr a0 (LV.int .i64 12)).bind fun t11_11 =>
 (pr.bin .shr t11_11 (LV.int .u64 4)).bind fun t12_12 =>
 (pr.conv .i64 t12_12).bind fun t13_13 =>
 (pr.bin .mul t13_13 (LV.int .i64 4)).bind fun t14_14 =>
 (pr.bin .lss t14_14 (LV.int .i64 20)).bind fun t17_17 =>
 condK t17_17 (
 (pr.parts (LV.agg [(LV.int .i64 0), (LV.int .i64 0), (LV.int .i64 0), (LV.str [])]) []).bind fun t18_19 =>
 (pr.call g id_tcp_fault t2_0.2 [(LV.int .i64 8)]).bind fun t19_20 =>
 (pr.store 4 true t2_0.2 t2_0.1 t18_19).bind fun u21 =>
 (pr.load 4 true u21.2 t2_0.1).bind fun v23 =>
 pr.fin none u21.2 [v23, t19_20]) (
 (pr.len true a0).bind fun t22_25 =>
 (pr.bin .lss t22_25 t14_14).bind fun t24_27 =>
 condK t24_27 (
 (pr.parts (LV.agg [(LV.int .i64 0), (LV.int .i64 0), (LV.int .i64 0), (LV.str [])]) []).bind fun t25_29 =>
 (pr.call g id_tcp_fault t2_0.2 [(LV.int .i64 7)]).bind fun t26_30 =>
 (pr.store 4 true t2_0.2 t2_0.1 t25_29).bind fun u31 =>
 (pr.load 4 true u31.2 t2_0.1).bind fun v33 =>
 pr.fin none u31.2 [v33, t26_30]) (
 (pr.call g id_tcp_two t2_0.2 [a0, (LV.int .i64 0)]).bind fun t28_35 =>
 (pr.call g id_tcp_two t2_0.2 [a0, (LV.int .i64 2)]).bind fun t30_37 =>
 (pr.idxStr a0 (LV.int .i64 13)).bind fun t32_39 =>
 (pr.bin .and t32_39 (LV.int .u8 63)).bind fun t33_40 =>
 (pr.conv .i64 t33_40).bind fun t34_41 =>
 (pr.parts (LV.agg [(LV.int .i64 0), (LV.int .i64 0), (LV.int .i64 0), (LV.str [])]) [(0, t28_35), (1, t30_37), (2, t34_41), (3, a0)]).bind fun t36_43 =>
 (pr.store 4 true t2_0.2 t2_0.1 t36_43).bind fun u44 =>
 (pr.load 4 true u44.2 t2_0.1).bind fun v46 =>
 pr.fin none u44.2 [v46, LV.nili])))
theorem F_tcp_Parse_eq (g : Call) (a0 : LV) : fnEv g c_tcp_Parse [a0] none = F_tcp_Parse g a0 := by kernel_rfl

/-- interpreter/interpreterlaw06.raw -/
noncomputable def F_interpreterlaw06_raw (g : Call) : Option (LV × Option LV) :=
 (pr.call g id_strings_Repeat noSlots [(LV.str [0]), (LV.int .i64 12)]).bind fun t1_1 =>
 (pr.bin .add t1_1 (LV.str [80])).bind fun t2_2 =>
 (pr.call g id_strings_Repeat noSlots [(LV.str [0]), (LV.int .i64 7)]).bind fun t3_3 =>
 (pr.bin .add t2_2 t3_3).bind fun t4_4 =>
 pr.fin none noSlots [t4_4]
theorem F_interpreterlaw06_raw_eq (g : Call) : fnEv g c_interpreterlaw06_raw [] none = F_interpreterlaw06_raw g := by kernel_rfl

/-- interpreter/tcp.Bytes -/
noncomputable def F_tcp_Bytes (g : Call) (a0 : LV) (a1 : LV) : Option (LV × Option LV) :=
 (pr.box a0).bind fun t2_0 =>
 (pr.fieldAddr 3 3 t2_0).bind fun t15_3 =>
 (pr.load 1 false noSlots t15_3).bind fun t16_4 =>
 (pr.call g id_tcp_Parse noSlots [t16_4]).bind fun t17_5 =>
 (pr.extract t17_5 0).bind fun t18_7 =>
 (pr.extract t17_5 1).bind fun t19_8 =>
 (pr.alloc (LV.agg [(LV.int .i64 0), (LV.int .i64 0), (LV.int .i64 0), (LV.str [])]) 6 noSlots).bind fun t6_9 =>
 (pr.store 4 true t6_9.2 t6_9.1 t18_7).bind fun u10 =>
 (pr.eqNil 1 true t19_8).bind fun t21_13 =>
 condK t21_13 (
 pr.fin none u10.2 [(LV.str []), t19_8]) (
 (pr.fieldAddr 0 0 t2_0).bind fun t24_17 =>
 (pr.load 1 false u10.2 t24_17).bind fun t25_18 =>
 (pr.call g id_num_Big u10.2 [t25_18, (LV.int .i64 2)]).bind fun t26_19 =>
 (pr.extract t26_19 0).bind fun t27_21 =>
 (pr.extract t26_19 1).bind fun t28_22 =>
 (pr.eqNil 1 true t28_22).bind fun t30_26 =>
 condK t30_26 (
 pr.fin none u10.2 [(LV.str []), t28_22]) (
 (pr.fieldAddr 1 1 t2_0).bind fun t33_30 =>
 (pr.load 1 false u10.2 t33_30).bind fun t34_31 =>
 (pr.call g id_num_Big u10.2 [t34_31, (LV.int .i64 2)]).bind fun t35_32 =>
 (pr.extract t35_32 0).bind fun t36_34 =>
 (pr.extract t35_32 1).bind fun t37_35 =>
 (pr.eqNil 1 true t37_35).bind fun t39_39 =>
 condK t39_39 (
 pr.fin none u10.2 [(LV.str []), t37_35]) (
 (pr.bin .add t27_21 t36_34).bind fun t43_45 =>
 (pr.fieldAddr 3 3 t2_0).bind fun t44_46 =>
 (pr.load 1 false u10.2 t44_46).bind fun t45_47 =>
 (pr.slc 0 t45_47 (some (LV.int .i64 4)) (some (LV.int .i64 16))).bind fun t46_48 =>
 (pr.bin .add t43_45 t46_48).bind fun t47_49 =>
 (pr.fieldAddr 3 3 t2_0).bind fun t48_50 =>
 (pr.load 1 false u10.2 t48_50).bind fun t49_51 =>
 (pr.slc 0 t49_51 (some (LV.int .i64 18)) none).bind fun t50_52 =>
 (pr.bsl (LV.str []) 4 [(0, a1), (1, t47_49), (2, (LV.str [0, 0])), (3, t50_52)]).bind fun t55_58 =>
 (pr.call g id_sum_Of u10.2 [t55_58]).bind fun t56_59 =>
 (pr.call g id_num_Big u10.2 [t56_59, (LV.int .i64 2)]).bind fun t57_60 =>
 (pr.extract t57_60 0).bind fun t58_62 =>
 (pr.extract t57_60 1).bind fun t59_63 =>
 (pr.bin .add t47_49 t58_62).bind fun t62_68 =>
 (pr.bin .add t62_68 t50_52).bind fun t64_70 =>
 pr.fin none u10.2 [t64_70, t59_63])))
theorem F_tcp_Bytes_eq (g : Call) (a0 : LV) (a1 : LV) : fnEv g c_tcp_Bytes [a0, a1] none = F_tcp_Bytes g a0 a1 := by kernel_rfl

/-- interpreter/interpreterlaw06.awake -/
noncomputable def F_interpreterlaw06_awake (g : Call) : Option (LV × Option LV) :=
 (pr.call g id_interpreterlaw06_raw noSlots []).bind fun t6_1 =>
 (pr.parts (LV.agg [(LV.int .i64 0), (LV.int .i64 0), (LV.int .i64 0), (LV.str [])]) [(0, (LV.int .i64 1)), (1, (LV.int .i64 2)), (3, t6_1)]).bind fun t7_2 =>
 (pr.call g id_tcp_Bytes noSlots [t7_2, (LV.str [])]).bind fun t8_3 =>
 (pr.extract t8_3 0).bind fun t9_5 =>
 (pr.extract t8_3 1).bind fun t10_6 =>
 (pr.call g id_tcp_Parse noSlots [t9_5]).bind fun t13_10 =>
 (pr.extract t13_10 0).bind fun t14_12 =>
 (pr.extract t13_10 1).bind fun t15_13 =>
 (pr.alloc (LV.agg [(LV.int .i64 0), (LV.int .i64 0), (LV.int .i64 0), (LV.str [])]) 3 noSlots).bind fun t3_14 =>
 (pr.store 4 true t3_14.2 t3_14.1 t14_12).bind fun u15 =>
 (pr.eqNil 1 false t10_6).bind fun t17_18 =>
 (pr.guard t17_18 true).bind fun b20 =>
 (if b20 = true then some t15_13 else some LV.undef).bind fun t19_20 =>
 (pr.guard t17_18 true).bind fun b21 =>
 (if b21 = true then pr.eqNil 1 false t19_20 else some LV.undef).bind fun t20_21 =>
 (pr.pick t17_18 t20_21 (LV.bool false)).bind fun t21_22 =>
 (pr.guard t21_22 true).bind fun b24 =>
 (if b24 = true then some t9_5 else some LV.undef).bind fun t23_24 =>
 (pr.guard t21_22 true).bind fun b25 =>
 (if b25 = true then pr.call g id_strings_Repeat u15.2 [(LV.str [0]), (LV.int .i64 8)] else some LV.undef).bind fun t24_25 =>
 (pr.guard t21_22 true).bind fun b26 =>
 (if b26 = true then pr.bin .add (LV.str [0, 1, 0, 2]) t24_25 else some LV.undef).bind fun t25_26 =>
 (pr.guard t21_22 true).bind fun b27 =>
 (if b27 = true then pr.bin .add t25_26 (LV.str [80, 0, 0, 0, 175, 252, 0, 0]) else some LV.undef).bind fun t26_27 =>
 (pr.guard t21_22 true).bind fun b28 =>
 (if b28 = true then pr.bin .eql t23_24 t26_27 else some LV.undef).bind fun t27_28 =>
 (pr.pick t21_22 t27_28 (LV.bool false)).bind fun t28_29 =>
 (pr.guard t28_29 true).bind fun b31 =>
 (if b31 = true then pr.load 4 true u15.2 t3_14.1 else some LV.undef).bind fun t30_31 =>
 (pr.guard t28_29 true).bind fun b32 =>
 (if b32 = true then some t9_5 else some LV.undef).bind fun t31_32 =>
 (pr.guard t28_29 true).bind fun b33 =>
 (if b33 = true then pr.parts (LV.agg [(LV.int .i64 0), (LV.int .i64 0), (LV.int .i64 0), (LV.str [])]) [(0, (LV.int .i64 1)), (1, (LV.int .i64 2)), (3, t31_32)] else some LV.undef).bind fun t32_33 =>
 (pr.guard t28_29 true).bind fun b34 =>
 (if b34 = true then pr.eqS (Sh.agg [(Sh.int .i64), (Sh.int .i64), (Sh.int .i64), Sh.str]) false t30_31 t32_33 else some LV.undef).bind fun t33_34 =>
 (pr.pick t28_29 t33_34 (LV.bool false)).bind fun t34_35 =>
 pr.fin none u15.2 [t34_35]
theorem F_interpreterlaw06_awake_eq (g : Call) : fnEv g c_interpreterlaw06_awake [] none = F_interpreterlaw06_awake g := by kernel_rfl

/-- interpreter/interpreterlaw06.same -/
noncomputable def F_interpreterlaw06_same (g : Call) (a0 : LV) (a1 : LV) : Option (LV × Option LV) :=
 (pr.bin .eql a1 (LV.int .i64 0)).bind fun t8_2 =>
 condK t8_2 (
 (pr.eqNil 1 false a0).bind fun t10_4 =>
 pr.fin none noSlots [t10_4]) (
 (pr.assert ty_ptr_num_Fault true LV.nilp a0).bind fun t13_7 =>
 (pr.extract t13_7 0).bind fun t14_9 =>
 (pr.extract t13_7 1).bind fun t15_10 =>
 (pr.guard t15_10 true).bind fun b15 =>
 (if b15 = true then some t14_9 else some LV.undef).bind fun t18_15 =>
 (pr.guard t15_10 true).bind fun b16 =>
 (if b16 = true then pr.eqNil 0 true t18_15 else some LV.undef).bind fun t19_16 =>
 (pr.pick t15_10 t19_16 (LV.bool false)).bind fun t20_17 =>
 (pr.guard t20_17 true).bind fun b19 =>
 (if b19 = true then some t14_9 else some LV.undef).bind fun t22_19 =>
 (pr.guard t20_17 true).bind fun b20 =>
 (if b20 = true then pr.nilCheck t22_19 else some LV.undef).bind fun t23_20 =>
 (pr.guard t20_17 true).bind fun b21 =>
 (if b21 = true then pr.fieldAddr 0 0 t23_20 else some LV.undef).bind fun t24_21 =>
 (pr.guard t20_17 true).bind fun b22 =>
 (if b22 = true then pr.load 1 false noSlots t24_21 else some LV.undef).bind fun t25_22 =>
 (pr.guard t20_17 true).bind fun b23 =>
 (if b23 = true then some a1 else some LV.undef).bind fun t26_23 =>
 (pr.guard t20_17 true).bind fun b24 =>
 (if b24 = true then pr.bin .eql t25_22 t26_23 else some LV.undef).bind fun t27_24 =>
 (pr.pick t20_17 t27_24 (LV.bool false)).bind fun t28_25 =>
 (pr.guard t28_25 true).bind fun b27 =>
 (if b27 = true then some t14_9 else some LV.undef).bind fun t30_27 =>
 (pr.guard t28_25 true).bind fun b28 =>
 (if b28 = true then pr.nilCheck t30_27 else some LV.undef).bind fun t31_28 =>
 (pr.guard t28_25 true).bind fun b29 =>
 (if b29 = true then pr.fieldAddr 1 1 t31_28 else some LV.undef).bind fun t32_29 =>
 (pr.guard t28_25 true).bind fun b30 =>
 (if b30 = true then pr.load 1 false noSlots t32_29 else some LV.undef).bind fun t33_30 =>
 (pr.guard t28_25 true).bind fun b31 =>
 (if b31 = true then pr.bin .eql t33_30 (LV.int .i64 0) else some LV.undef).bind fun t34_31 =>
 (pr.pick t28_25 t34_31 (LV.bool false)).bind fun t35_32 =>
 pr.fin none noSlots [t35_32])
theorem F_interpreterlaw06_same_eq (g : Call) (a0 : LV) (a1 : LV) : fnEv g c_interpreterlaw06_same [a0, a1] none = F_interpreterlaw06_same g a0 a1 := by kernel_rfl

/-- interpreter/interpreterref06.Bytes -/
noncomputable def F_interpreterref06_Bytes (g : Call) (a0 : LV) (a1 : LV) : Option (LV × Option LV) :=
 (pr.box a0).bind fun t2_0 =>
 (pr.fieldAddr 3 3 t2_0).bind fun t11_3 =>
 (pr.load 1 false noSlots t11_3).bind fun t12_4 =>
 (pr.call g id_interpreterref06_Parse noSlots [t12_4]).bind fun t13_5 =>
 (pr.extract t13_5 0).bind fun t14_7 =>
 (pr.extract t13_5 1).bind fun t15_8 =>
 (pr.alloc (LV.agg [(LV.int .i64 0), (LV.int .i64 0), (LV.int .i64 0), (LV.str [])]) 6 noSlots).bind fun t6_9 =>
 (pr.store 4 true t6_9.2 t6_9.1 t14_7).bind fun u10 =>
 (pr.bin .neq t15_8 (LV.int .i64 0)).bind fun t17_13 =>
 condK t17_13 (
 pr.fin none u10.2 [(LV.str []), t15_8]) (
 (pr.fieldAddr 0 0 t2_0).bind fun t19_17 =>
 (pr.load 1 false u10.2 t19_17).bind fun t20_18 =>
 (pr.bin .lss t20_18 (LV.int .i64 0)).bind fun t21_19 =>
 (pr.guard t21_19 false).bind fun b21 =>
 (if b21 = true then pr.fieldAddr 0 0 t2_0 else some LV.undef).bind fun t23_21 =>
 (pr.guard t21_19 false).bind fun b22 =>
 (if b22 = true then pr.load 1 false u10.2 t23_21 else some LV.undef).bind fun t24_22 =>
 (pr.guard t21_19 false).bind fun b23 =>
 (if b23 = true then pr.bin .gtr t24_22 (LV.int .i64 65535) else some LV.undef).bind fun t25_23 =>
 (pr.pick t21_19 (LV.bool true) t25_23).bind fun t26_24 =>
 (pr.guard t26_24 false).bind fun b26 =>
 (if b26 = true then pr.fieldAddr 1 1 t2_0 else some LV.undef).bind fun t28_26 =>
 (pr.guard t26_24 false).bind fun b27 =>
 (if b27 = true then pr.load 1 false u10.2 t28_26 else some LV.undef).bind fun t29_27 =>
 (pr.guard t26_24 false).bind fun b28 =>
 (if b28 = true then pr.bin .lss t29_27 (LV.int .i64 0) else some LV.undef).bind fun t30_28 =>
 (pr.pick t26_24 (LV.bool true) t30_28).bind fun t31_29 =>
 (pr.guard t31_29 false).bind fun b31 =>
 (if b31 = true then pr.fieldAddr 1 1 t2_0 else some LV.undef).bind fun t33_31 =>
 (pr.guard t31_29 false).bind fun b32 =>
 (if b32 = true then pr.load 1 false u10.2 t33_31 else some LV.undef).bind fun t34_32 =>
 (pr.guard t31_29 false).bind fun b33 =>
 (if b33 = true then pr.bin .gtr t34_32 (LV.int .i64 65535) else some LV.undef).bind fun t35_33 =>
 (pr.pick t31_29 (LV.bool true) t35_33).bind fun t36_34 =>
 condK t36_34 (
 pr.fin none u10.2 [(LV.str []), (LV.int .i64 13)]) (
 (pr.fieldAddr 3 3 t2_0).bind fun t37_37 =>
 (pr.load 1 false u10.2 t37_37).bind fun t38_38 =>
 (pr.s2b 39 u10.2 t38_38).bind fun t39_39 =>
 (pr.fieldAddr 0 0 t2_0).bind fun t41_42 =>
 (pr.load 1 false t39_39.2 t41_42).bind fun t42_43 =>
 (pr.bin .quo t42_43 (LV.int .i64 256)).bind fun t43_44 =>
 (pr.conv .u8 t43_44).bind fun t44_45 =>
 (pr.idxAddr none 1 t39_39.1 (LV.int .i64 0)).bind fun t45_46 =>
 (pr.store 1 false t39_39.2 t45_46 t44_45).bind fun u47 =>
 (pr.fieldAddr 0 0 t2_0).bind fun t47_49 =>
 (pr.load 1 false u47.2 t47_49).bind fun t48_50 =>
 (pr.bin .rem t48_50 (LV.int .i64 256)).bind fun t49_51 =>
 (pr.conv .u8 t49_51).bind fun t50_52 =>
 (pr.idxAddr none 1 t39_39.1 (LV.int .i64 1)).bind fun t51_53 =>
 (pr.store 1 false u47.2 t51_53 t50_52).bind fun u54 =>
 (pr.fieldAddr 1 1 t2_0).bind fun t53_56 =>
 (pr.load 1 false u54.2 t53_56).bind fun t54_57 =>
 (pr.bin .quo t54_57 (LV.int .i64 256)).bind fun t55_58 =>
 (pr.conv .u8 t55_58).bind fun t56_59 =>
 (pr.idxAddr none 1 t39_39.1 (LV.int .i64 2)).bind fun t57_60 =>
 (pr.store 1 false u54.2 t57_60 t56_59).bind fun u61 =>
 (pr.fieldAddr 1 1 t2_0).bind fun t59_63 =>
 (pr.load 1 false u61.2 t59_63).bind fun t60_64 =>
 (pr.bin .rem t60_64 (LV.int .i64 256)).bind fun t61_65 =>
 (pr.conv .u8 t61_65).bind fun t62_66 =>
 (pr.idxAddr none 1 t39_39.1 (LV.int .i64 3)).bind fun t63_67 =>
 (pr.store 1 false u61.2 t63_67 t62_66).bind fun u68 =>
 (pr.idxAddr none 1 t39_39.1 (LV.int .i64 16)).bind fun t65_70 =>
 (pr.store 1 false u68.2 t65_70 (LV.int .u8 0)).bind fun u71 =>
 (pr.idxAddr none 1 t39_39.1 (LV.int .i64 17)).bind fun t67_73 =>
 (pr.store 1 false u71.2 t67_73 (LV.int .u8 0)).bind fun u74 =>
 (pr.b2s u74.2 t39_39.1).bind fun t70_77 =>
 (pr.bin .add a1 t70_77).bind fun t71_78 =>
 (pr.call g id_interpreterref02_Of u74.2 [t71_78]).bind fun t72_79 =>
 (pr.bin .quo t72_79 (LV.int .i64 256)).bind fun t75_83 =>
 (pr.conv .u8 t75_83).bind fun t76_84 =>
 (pr.idxAddr none 1 t39_39.1 (LV.int .i64 16)).bind fun t77_85 =>
 (pr.store 1 false u74.2 t77_85 t76_84).bind fun u86 =>
 (pr.bin .rem t72_79 (LV.int .i64 256)).bind fun t80_89 =>
 (pr.conv .u8 t80_89).bind fun t81_90 =>
 (pr.idxAddr none 1 t39_39.1 (LV.int .i64 17)).bind fun t82_91 =>
 (pr.store 1 false u86.2 t82_91 t81_90).bind fun u92 =>
 (pr.b2s u92.2 t39_39.1).bind fun t84_94 =>
 pr.fin none u92.2 [t84_94, (LV.int .i64 0)]))
theorem F_interpreterref06_Bytes_eq (g : Call) (a0 : LV) (a1 : LV) : fnEv g c_interpreterref06_Bytes [a0, a1] none = F_interpreterref06_Bytes g a0 a1 := by kernel_rfl

/-- interpreter/interpreterref06.Parse -/
noncomputable def F_interpreterref06_Parse (g : Call) (a0 : LV) : Option (LV × Option LV) :=
 (pr.alloc (LV.agg [(LV.int .i64 0), (LV.int .i64 0), (LV.int .i64 0), (LV.str [])]) 2 noSlots).bind fun t2_0 =>
 (pr.len true a0).bind fun t7_3 =>
 (pr.bin .lss t7_3 (LV.int .i64 20)).bind fun t8_4 =>
 condK t8_4 (
 (pr.parts (LV.agg [(LV.int .i64 0), (LV.int .i64 0), (LV.int .i64 0), (LV.str [])]) []).bind fun t9_5 =>
 (pr.store 4 true t2_0.2 t2_0.1 t9_5).bind fun u6 =>
 (pr.load 4 true u6.2 t2_0.1).bind fun v8 =>
 pr.fin none u6.2 [v8, (LV.int .i64 7)]) (
 (pr.idxStr a0 (LV.int .i64 12)).bind fun t11_10 =>
 (pr.conv .i64 t11_10).bind fun t12_11 =>
 (pr.bin .quo t12_11 (LV.int .i64 16)).bind fun t13_12 =>
 (pr.bin .mul (LV.int .i64 4) t13_12).bind fun t14_13 =>
 (pr.bin .lss t14_13 (LV.int .i64 20)).bind fun t16_16 =>
 condK t16_16 (
 (pr.parts (LV.agg [(LV.int .i64 0), (LV.int .i64 0), (LV.int .i64 0), (LV.str [])]) []).bind fun t17_17 =>
 (pr.store 4 true t2_0.2 t2_0.1 t17_17).bind fun u18 =>
 (pr.load 4 true u18.2 t2_0.1).bind fun v20 =>
 pr.fin none u18.2 [v20, (LV.int .i64 8)]) (
 (pr.len true a0).bind fun t19_22 =>
 (pr.bin .lss t19_22 t14_13).bind fun t21_24 =>
 condK t21_24 (
 (pr.parts (LV.agg [(LV.int .i64 0), (LV.int .i64 0), (LV.int .i64 0), (LV.str [])]) []).bind fun t22_25 =>
 (pr.store 4 true t2_0.2 t2_0.1 t22_25).bind fun u26 =>
 (pr.load 4 true u26.2 t2_0.1).bind fun v28 =>
 pr.fin none u26.2 [v28, (LV.int .i64 7)]) (
 (pr.slc 0 a0 none (some (LV.int .i64 4))).bind fun t24_30 =>
 (pr.call g id_interpreterref02_Words t2_0.2 [t24_30]).bind fun t25_31 =>
 (pr.idxAddr none 1 t25_31 (LV.int .i64 0)).bind fun t27_34 =>
 (pr.load 1 false t2_0.2 t27_34).bind fun t28_35 =>
 (pr.idxAddr none 1 t25_31 (LV.int .i64 1)).bind fun t30_37 =>
 (pr.load 1 false t2_0.2 t30_37).bind fun t31_38 =>
 (pr.idxStr a0 (LV.int .i64 13)).bind fun t33_40 =>
 (pr.conv .i64 t33_40).bind fun t34_41 =>
 (pr.bin .rem t34_41 (LV.int .i64 64)).bind fun t35_42 =>
 (pr.parts (LV.agg [(LV.int .i64 0), (LV.int .i64 0), (LV.int .i64 0), (LV.str [])]) [(0, t28_35), (1, t31_38), (2, t35_42), (3, a0)]).bind fun t37_44 =>
 (pr.store 4 true t2_0.2 t2_0.1 t37_44).bind fun u45 =>
 (pr.load 4 true u45.2 t2_0.1).bind fun v47 =>
 pr.fin none u45.2 [v47, (LV.int .i64 0)])))
theorem F_interpreterref06_Parse_eq (g : Call) (a0 : LV) : fnEv g c_interpreterref06_Parse [a0] none = F_interpreterref06_Parse g a0 := by kernel_rfl

/-- interpreter/tcp.Check -/
noncomputable def F_tcp_Check (g : Call) (a0 : LV) (a1 : LV) : Option (LV × Option LV) :=
 (pr.call g id_tcp_Parse noSlots [a0]).bind fun t9_2 =>
 (pr.extract t9_2 0).bind fun t10_4 =>
 (pr.extract t9_2 1).bind fun t11_5 =>
 (pr.alloc (LV.agg [(LV.int .i64 0), (LV.int .i64 0), (LV.int .i64 0), (LV.str [])]) 5 noSlots).bind fun t5_6 =>
 (pr.store 4 true t5_6.2 t5_6.1 t10_4).bind fun u7 =>
 (pr.eqNil 1 true t11_5).bind fun t13_10 =>
 condK t13_10 (
 pr.fin none u7.2 [t11_5]) (
 (pr.bsl (LV.str []) 2 [(0, a1), (1, a0)]).bind fun t17_15 =>
 (pr.call g id_sum_Right u7.2 [t17_15]).bind fun t18_16 =>
 (pr.un .not t18_16).bind fun t19_17 =>
 condK t19_17 (
 (pr.call g id_tcp_fault u7.2 [(LV.int .i64 9)]).bind fun t20_18 =>
 pr.fin none u7.2 [t20_18]) (
 pr.fin none u7.2 [LV.nili]))
theorem F_tcp_Check_eq (g : Call) (a0 : LV) (a1 : LV) : fnEv g c_tcp_Check [a0, a1] none = F_tcp_Check g a0 a1 := by kernel_rfl

/-- interpreter/interpreterref06.Check -/
noncomputable def F_interpreterref06_Check (g : Call) (a0 : LV) (a1 : LV) : Option (LV × Option LV) :=
 (pr.call g id_interpreterref06_Parse noSlots [a0]).bind fun t9_2 =>
 (pr.extract t9_2 0).bind fun t10_4 =>
 (pr.extract t9_2 1).bind fun t11_5 =>
 (pr.alloc (LV.agg [(LV.int .i64 0), (LV.int .i64 0), (LV.int .i64 0), (LV.str [])]) 5 noSlots).bind fun t5_6 =>
 (pr.store 4 true t5_6.2 t5_6.1 t10_4).bind fun u7 =>
 (pr.bin .neq t11_5 (LV.int .i64 0)).bind fun t13_10 =>
 condK t13_10 (
 pr.fin none u7.2 [t11_5]) (
 (pr.bin .add a1 a0).bind fun t17_15 =>
 (pr.call g id_interpreterref02_Of u7.2 [t17_15]).bind fun t18_16 =>
 (pr.bin .neq t18_16 (LV.int .i64 0)).bind fun t19_17 =>
 condK t19_17 (
 pr.fin none u7.2 [(LV.int .i64 9)]) (
 pr.fin none u7.2 [(LV.int .i64 0)]))
theorem F_interpreterref06_Check_eq (g : Call) (a0 : LV) (a1 : LV) : fnEv g c_interpreterref06_Check [a0, a1] none = F_interpreterref06_Check g a0 a1 := by kernel_rfl

/-- interpreter/sum.Update -/
noncomputable def F_sum_Update (g : Call) (a0 : LV) (a1 : LV) (a2 : LV) : Option (LV × Option LV) :=
 (pr.bin .and a0 (LV.int .i64 65535)).bind fun t9_2 =>
 (pr.bin .sub (LV.int .i64 65535) t9_2).bind fun t10_3 =>
 (pr.call g id_sum_even noSlots [a1]).bind fun t13_7 =>
 (pr.call g id_sum_add noSlots [t10_3, (LV.int .i64 0), t13_7, (LV.int .u8 255)]).bind fun t14_8 =>
 (pr.call g id_sum_fold noSlots [t14_8]).bind fun t15_9 =>
 (pr.call g id_sum_add noSlots [t15_9, (LV.int .i64 0), a2, (LV.int .u8 0)]).bind fun t18_13 =>
 (pr.call g id_sum_fold noSlots [t18_13]).bind fun t19_14 =>
 (pr.bin .sub (LV.int .i64 65535) t19_14).bind fun t20_15 =>
 pr.fin none noSlots [t20_15]
theorem F_sum_Update_eq (g : Call) (a0 : LV) (a1 : LV) (a2 : LV) : fnEv g c_sum_Update [a0, a1, a2] none = F_sum_Update g a0 a1 a2 := by kernel_rfl

/-- interpreter/num.Big -/
noncomputable def F_num_Big (g : Call) (a0 : LV) (a1 : LV) : Option (LV × Option LV) :=
 (pr.bin .neq a1 (LV.int .i64 1)).bind fun t10_3 =>
 (pr.guard t10_3 true).bind fun b5 =>
 (if b5 = true then some a1 else some LV.undef).bind fun t12_5 =>
 (pr.guard t10_3 true).bind fun b6 =>
 (if b6 = true then pr.bin .neq t12_5 (LV.int .i64 2) else some LV.undef).bind fun t13_6 =>
 (pr.pick t10_3 t13_6 (LV.bool false)).bind fun t14_7 =>
 (pr.guard t14_7 true).bind fun b9 =>
 (if b9 = true then some a1 else some LV.undef).bind fun t16_9 =>
 (pr.guard t14_7 true).bind fun b10 =>
 (if b10 = true then pr.bin .neq t16_9 (LV.int .i64 4) else some LV.undef).bind fun t17_10 =>
 (pr.pick t14_7 t17_10 (LV.bool false)).bind fun t18_11 =>
 condK t18_11 (
 (pr.parts (LV.agg [(LV.int .i64 0), (LV.int .i64 0)]) [(0, (LV.int .i64 1))]).bind fun t19_13 =>
 (pr.box t19_13).bind fun t20_14 =>
 (pr.iface ty_ptr_num_Fault t20_14).bind fun t21_15 =>
 pr.fin none noSlots [(LV.str []), t21_15]) (
 (pr.bin .lss a0 (LV.int .i64 0)).bind fun t24_19 =>
 (pr.guard t24_19 false).bind fun b21 =>
 (if b21 = true then some a0 else some LV.undef).bind fun t26_21 =>
 (pr.guard t24_19 false).bind fun b22 =>
 (if b22 = true then some a1 else some LV.undef).bind fun t27_22 =>
 (pr.guard t24_19 false).bind fun b23 =>
 (if b23 = true then pr.bin .mul (LV.int .i64 8) t27_22 else some LV.undef).bind fun t28_23 =>
 (pr.guard t24_19 false).bind fun b24 =>
 (if b24 = true then pr.bin .shl (LV.int .i64 1) t28_23 else some LV.undef).bind fun t29_24 =>
 (pr.guard t24_19 false).bind fun b25 =>
 (if b25 = true then pr.bin .geq t26_21 t29_24 else some LV.undef).bind fun t30_25 =>
 (pr.pick t24_19 (LV.bool true) t30_25).bind fun t31_26 =>
 condK t31_26 (
 (pr.parts (LV.agg [(LV.int .i64 0), (LV.int .i64 0)]) [(0, (LV.int .i64 13))]).bind fun t32_28 =>
 (pr.box t32_28).bind fun t33_29 =>
 (pr.iface ty_ptr_num_Fault t33_29).bind fun t34_30 =>
 pr.fin none noSlots [(LV.str []), t34_30]) (
 (pr.mkSl 36 noSlots a1 a1).bind fun t36_34 =>
 (whileW (fun q38 : List LV × Slots =>
 (pr.bin .lss (getL q38.1 0) a1).bind fun t39_39 =>
 condK t39_39 (
 (pr.bin .sub a1 (LV.int .i64 1)).bind fun t45_46 =>
 (pr.bin .sub t45_46 (getL q38.1 0)).bind fun t47_48 =>
 (pr.bin .mul (LV.int .i64 8) t47_48).bind fun t48_49 =>
 (pr.bin .shr a0 t48_49).bind fun t49_50 =>
 (pr.conv .u8 t49_50).bind fun t50_51 =>
 (pr.idxAddr none 1 t36_34.1 (getL q38.1 0)).bind fun t51_52 =>
 (pr.store 1 false q38.2 t51_52 t50_51).bind fun u53 =>
 (pr.bin .add (getL q38.1 0) (LV.int .i64 1)).bind fun t52_54 =>
 pr.round t36_34.2 .normal [t52_54] u53.2) (
 pr.round t36_34.2 (.exit 1) [(getL q38.1 0)] q38.2)) ([(LV.int .i64 0)], t36_34.2)).bind fun r38 =>
 exIf r38.1 (.exit 1) (
 (pr.b2s r38.2.2 t36_34.1).bind fun t54_57 =>
 pr.fin none r38.2.2 [t54_57, LV.nili]) (none)))
theorem F_num_Big_eq (g : Call) (a0 : LV) (a1 : LV) : fnEv g c_num_Big [a0, a1] none = F_num_Big g a0 a1 := by kernel_rfl

/-- interpreter/udp.fault -/
noncomputable def F_udp_fault (g : Call) (a0 : LV) : Option (LV × Option LV) :=
 (pr.parts (LV.agg [(LV.int .i64 0), (LV.int .i64 0)]) [(0, a0)]).bind fun t4_2 =>
 (pr.box t4_2).bind fun t5_3 =>
 (pr.iface ty_ptr_num_Fault t5_3).bind fun t6_4 =>
 pr.fin none noSlots [t6_4]
theorem F_udp_fault_eq (g : Call) (a0 : LV) : fnEv g c_udp_fault [a0] none = F_udp_fault g a0 := by kernel_rfl

/-- interpreter/sum.Of -/
noncomputable def F_sum_Of (g : Call) (a0 : LV) : Option (LV × Option LV) :=
 (pr.len false a0).bind fun t8_4 =>
 (whileW (fun q6 : List LV × Slots =>
 (pr.bin .lss (getL q6.1 2) t8_4).bind fun t10_7 =>
 condK t10_7 (
 (pr.idxAddr none 1 a0 (getL q6.1 2)).bind fun t11_8 =>
 (pr.load 1 false q6.2 t11_8).bind fun t12_9 =>
 (pr.call g id_sum_add q6.2 [(getL q6.1 0), (getL q6.1 1), t12_9, (LV.int .u8 0)]).bind fun t16_14 =>
 (pr.call g id_sum_fold q6.2 [t16_14]).bind fun t17_15 =>
 (pr.len true t12_9).bind fun t20_19 =>
 (pr.bin .add (getL q6.1 1) t20_19).bind fun t21_20 =>
 (pr.bin .add (getL q6.1 2) (LV.int .i64 1)).bind fun t22_22 =>
 pr.round noSlots .normal [t17_15, t21_20, t22_22] q6.2) (
 pr.round noSlots (.exit 0) [(getL q6.1 0), (getL q6.1 1), (getL q6.1 2)] q6.2)) ([(LV.int .i64 0), (LV.int .i64 0), (LV.int .i64 0)], noSlots)).bind fun r6 =>
 exIf r6.1 (.exit 0) (
 (pr.bin .sub (LV.int .i64 65535) (getL r6.2.1 0)).bind fun t24_25 =>
 pr.fin none r6.2.2 [t24_25]) (none)
theorem F_sum_Of_eq (g : Call) (a0 : LV) : fnEv g c_sum_Of [a0] none = F_sum_Of g a0 := by kernel_rfl

/-- interpreter/interpreterref05.two -/
noncomputable def F_interpreterref05_two (g : Call) (a0 : LV) : Option (LV × Option LV) :=
 (pr.bin .quo a0 (LV.int .i64 256)).bind fun t4_2 =>
 (pr.conv .u8 t4_2).bind fun t5_3 =>
 (pr.bin .rem a0 (LV.int .i64 256)).bind fun t7_5 =>
 (pr.conv .u8 t7_5).bind fun t8_6 =>
 (pr.bsl (LV.int .u8 0) 2 [(0, t5_3), (1, t8_6)]).bind fun t9_7 =>
 (pr.b2s noSlots t9_7).bind fun t10_8 =>
 pr.fin none noSlots [t10_8]
theorem F_interpreterref05_two_eq (g : Call) (a0 : LV) : fnEv g c_interpreterref05_two [a0] none = F_interpreterref05_two g a0 := by kernel_rfl

/-- interpreter/interpreterref02.Of -/
noncomputable def F_interpreterref02_Of (g : Call) (a0 : LV) : Option (LV × Option LV) :=
 (pr.call g id_interpreterref02_Words noSlots [a0]).bind fun t4_2 =>
 (pr.call g id_interpreterref02_Total noSlots [t4_2]).bind fun t5_3 =>
 (pr.bin .sub (LV.int .i64 65535) t5_3).bind fun t6_4 =>
 pr.fin none noSlots [t6_4]
theorem F_interpreterref02_Of_eq (g : Call) (a0 : LV) : fnEv g c_interpreterref02_Of [a0] none = F_interpreterref02_Of g a0 := by kernel_rfl

/-- interpreter/udp.two -/
noncomputable def F_udp_two (g : Call) (a0 : LV) (a1 : LV) : Option (LV × Option LV) :=
 (pr.idxStr a0 a1).bind fun t7_3 =>
 (pr.conv .i64 t7_3).bind fun t8_4 =>
 (pr.bin .shl t8_4 (LV.int .u64 8)).bind fun t9_5 =>
 (pr.bin .add a1 (LV.int .i64 1)).bind fun t12_8 =>
 (pr.idxStr a0 t12_8).bind fun t13_9 =>
 (pr.conv .i64 t13_9).bind fun t14_10 =>
 (pr.bin .or t9_5 t14_10).bind fun t15_11 =>
 pr.fin none noSlots [t15_11]
theorem F_udp_two_eq (g : Call) (a0 : LV) (a1 : LV) : fnEv g c_udp_two [a0, a1] none = F_udp_two g a0 a1 := by kernel_rfl

/-- interpreter/interpreterref02.Words -/
noncomputable def F_interpreterref02_Words (g : Call) (a0 : LV) : Option (LV × Option LV) :=
 (pr.nilT 1 3 noSlots).bind fun t3_1 =>
 (pr.len true a0).bind fun t6_3 =>
 (pr.bin .rem t6_3 (LV.int .i64 2)).bind fun t7_4 =>
 (pr.bin .eql t7_4 (LV.int .i64 1)).bind fun t8_5 =>
 condK t8_5 (
 (pr.bsl (LV.int .u8 0) 1 [(0, (LV.int .u8 0))]).bind fun t10_7 =>
 (pr.b2s t3_1.2 t10_7).bind fun t11_8 =>
 (pr.bin .add a0 t11_8).bind fun t12_9 =>
 (whileW (fun q12 : List LV × Slots =>
 (pr.len true t12_9).bind fun t15_15 =>
 (pr.bin .lss (getL q12.1 1) t15_15).bind fun t16_16 =>
 condK t16_16 (
 (pr.idxStr t12_9 (getL q12.1 1)).bind fun t22_20 =>
 (pr.conv .i64 t22_20).bind fun t23_21 =>
 (pr.bin .mul (LV.int .i64 256) t23_21).bind fun t24_22 =>
 (pr.bin .add (getL q12.1 1) (LV.int .i64 1)).bind fun t27_25 =>
 (pr.idxStr t12_9 t27_25).bind fun t28_26 =>
 (pr.conv .i64 t28_26).bind fun t29_27 =>
 (pr.bin .add t24_22 t29_27).bind fun t30_28 =>
 (pr.bsl (LV.int .i64 0) 1 [(0, t30_28)]).bind fun t31_29 =>
 (pr.append 1 8 32 q12.2 (getL q12.1 0) t31_29).bind fun t32_30 =>
 (pr.bin .add (getL q12.1 1) (LV.int .i64 2)).bind fun t18_33 =>
 pr.round t3_1.2 .normal [t32_30.1, t18_33] t32_30.2) (
 pr.round t3_1.2 (.exit 0) [(getL q12.1 0), (getL q12.1 1)] q12.2)) ([t3_1.1, (LV.int .i64 0)], t3_1.2)).bind fun r12 =>
 exIf r12.1 (.exit 0) (
 pr.fin none r12.2.2 [(getL r12.2.1 0)]) (none)) (
 (whileW (fun q38 : List LV × Slots =>
 (pr.len true a0).bind fun t15_41 =>
 (pr.bin .lss (getL q38.1 1) t15_41).bind fun t16_42 =>
 condK t16_42 (
 (pr.idxStr a0 (getL q38.1 1)).bind fun t22_46 =>
 (pr.conv .i64 t22_46).bind fun t23_47 =>
 (pr.bin .mul (LV.int .i64 256) t23_47).bind fun t24_48 =>
 (pr.bin .add (getL q38.1 1) (LV.int .i64 1)).bind fun t27_51 =>
 (pr.idxStr a0 t27_51).bind fun t28_52 =>
 (pr.conv .i64 t28_52).bind fun t29_53 =>
 (pr.bin .add t24_48 t29_53).bind fun t30_54 =>
 (pr.bsl (LV.int .i64 0) 1 [(0, t30_54)]).bind fun t31_55 =>
 (pr.append 1 8 32 q38.2 (getL q38.1 0) t31_55).bind fun t32_56 =>
 (pr.bin .add (getL q38.1 1) (LV.int .i64 2)).bind fun t18_59 =>
 pr.round t3_1.2 .normal [t32_56.1, t18_59] t32_56.2) (
 pr.round t3_1.2 (.exit 0) [(getL q38.1 0), (getL q38.1 1)] q38.2)) ([t3_1.1, (LV.int .i64 0)], t3_1.2)).bind fun r38 =>
 exIf r38.1 (.exit 0) (
 pr.fin none r38.2.2 [(getL r38.2.1 0)]) (none))
theorem F_interpreterref02_Words_eq (g : Call) (a0 : LV) : fnEv g c_interpreterref02_Words [a0] none = F_interpreterref02_Words g a0 := by kernel_rfl

/-- interpreter/tcp.fault -/
noncomputable def F_tcp_fault (g : Call) (a0 : LV) : Option (LV × Option LV) :=
 (pr.parts (LV.agg [(LV.int .i64 0), (LV.int .i64 0)]) [(0, a0)]).bind fun t4_2 =>
 (pr.box t4_2).bind fun t5_3 =>
 (pr.iface ty_ptr_num_Fault t5_3).bind fun t6_4 =>
 pr.fin none noSlots [t6_4]
theorem F_tcp_fault_eq (g : Call) (a0 : LV) : fnEv g c_tcp_fault [a0] none = F_tcp_fault g a0 := by kernel_rfl

/-- interpreter/tcp.two -/
noncomputable def F_tcp_two (g : Call) (a0 : LV) (a1 : LV) : Option (LV × Option LV) :=
 (pr.idxStr a0 a1).bind fun t7_3 =>
 (pr.conv .i64 t7_3).bind fun t8_4 =>
 (pr.bin .shl t8_4 (LV.int .u64 8)).bind fun t9_5 =>
 (pr.bin .add a1 (LV.int .i64 1)).bind fun t12_8 =>
 (pr.idxStr a0 t12_8).bind fun t13_9 =>
 (pr.conv .i64 t13_9).bind fun t14_10 =>
 (pr.bin .or t9_5 t14_10).bind fun t15_11 =>
 pr.fin none noSlots [t15_11]
theorem F_tcp_two_eq (g : Call) (a0 : LV) (a1 : LV) : fnEv g c_tcp_two [a0, a1] none = F_tcp_two g a0 a1 := by kernel_rfl

/-- interpreter/sum.fold -/
noncomputable def F_sum_fold (g : Call) (a0 : LV) : Option (LV × Option LV) :=
 (whileW (fun q1 : List LV × Slots =>
 (pr.bin .gtr (getL q1.1 0) (LV.int .i64 65535)).bind fun t4_3 =>
 condK t4_3 (
 (pr.bin .shr (getL q1.1 0) (LV.int .u64 16)).bind fun t6_5 =>
 (pr.bin .and (getL q1.1 0) (LV.int .i64 65535)).bind fun t8_7 =>
 (pr.bin .add t6_5 t8_7).bind fun t9_8 =>
 pr.round noSlots .normal [t9_8] q1.2) (
 pr.round noSlots (.exit 0) [(getL q1.1 0)] q1.2)) ([a0], noSlots)).bind fun r1 =>
 exIf r1.1 (.exit 0) (
 pr.fin none r1.2.2 [(getL r1.2.1 0)]) (none)
theorem F_sum_fold_eq (g : Call) (a0 : LV) : fnEv g c_sum_fold [a0] none = F_sum_fold g a0 := by kernel_rfl

/-- interpreter/sum.add -/
noncomputable def F_sum_add (g : Call) (a0 : LV) (a1 : LV) (a2 : LV) (a3 : LV) : Option (LV × Option LV) :=
 (pr.len true a2).bind fun t12_2 =>
 (whileW (fun q4 : List LV × Slots =>
 (pr.bin .lss (getL q4.1 1) t12_2).bind fun t14_5 =>
 condK t14_5 (
 (pr.idxStr a2 (getL q4.1 1)).bind fun t18_10 =>
 (pr.bin .xor t18_10 a3).bind fun t20_12 =>
 (pr.conv .i64 t20_12).bind fun t21_13 =>
 (pr.bin .add a1 (getL q4.1 1)).bind fun t24_17 =>
 (pr.bin .rem t24_17 (LV.int .i64 2)).bind fun t25_18 =>
 (pr.bin .eql t25_18 (LV.int .i64 0)).bind fun t26_19 =>
 condK t26_19 (
 (pr.bin .shl t21_13 (LV.int .u64 8)).bind fun t28_21 =>
 (pr.bin .add (getL q4.1 0) t28_21).bind fun t31_25 =>
 (pr.bin .add (getL q4.1 1) (LV.int .i64 1)).bind fun t32_27 =>
 pr.round noSlots .normal [t31_25, t32_27] q4.2) (
 (pr.bin .add (getL q4.1 0) t21_13).bind fun t31_31 =>
 (pr.bin .add (getL q4.1 1) (LV.int .i64 1)).bind fun t32_33 =>
 pr.round noSlots .normal [t31_31, t32_33] q4.2)) (
 pr.round noSlots (.exit 0) [(getL q4.1 0), (getL q4.1 1)] q4.2)) ([a0, (LV.int .i64 0)], noSlots)).bind fun r4 =>
 exIf r4.1 (.exit 0) (
 pr.fin none r4.2.2 [(getL r4.2.1 0)]) (none)
theorem F_sum_add_eq (g : Call) (a0 : LV) (a1 : LV) (a2 : LV) (a3 : LV) : fnEv g c_sum_add [a0, a1, a2, a3] none = F_sum_add g a0 a1 a2 a3 := by kernel_rfl

/-- interpreter/sum.even -/
noncomputable def F_sum_even (g : Call) (a0 : LV) : Option (LV × Option LV) :=
 (pr.len true a0).bind fun t4_2 =>
 (pr.bin .rem t4_2 (LV.int .i64 2)).bind fun t5_3 =>
 (pr.bin .eql t5_3 (LV.int .i64 1)).bind fun t6_4 =>
 condK t6_4 (
 (pr.bin .add a0 (LV.str [0])).bind fun t8_6 =>
 pr.fin none noSlots [t8_6]) (
 pr.fin none noSlots [a0])
theorem F_sum_even_eq (g : Call) (a0 : LV) : fnEv g c_sum_even [a0] none = F_sum_even g a0 := by kernel_rfl

/-- interpreter/interpreterref02.Total -/
noncomputable def F_interpreterref02_Total (g : Call) (a0 : LV) : Option (LV × Option LV) :=
 (whileW (fun q3 : List LV × Slots =>
 (pr.len false a0).bind fun t7_6 =>
 (pr.bin .lss (getL q3.1 1) t7_6).bind fun t8_7 =>
 condK t8_7 (
 (pr.idxAddr none 1 a0 (getL q3.1 1)).bind fun t14_11 =>
 (pr.load 1 false q3.2 t14_11).bind fun t15_12 =>
 (pr.bin .add (getL q3.1 0) t15_12).bind fun t16_13 =>
 (pr.bin .add (getL q3.1 1) (LV.int .i64 1)).bind fun t10_16 =>
 pr.round noSlots .normal [t16_13, t10_16] q3.2) (
 pr.round noSlots (.exit 0) [(getL q3.1 0), (getL q3.1 1)] q3.2)) ([(LV.int .i64 0), (LV.int .i64 0)], noSlots)).bind fun r3 =>
 exIf r3.1 (.exit 0) (
 (whileW (fun q18 : List LV × Slots =>
 (pr.bin .gtr (getL q18.1 0) (LV.int .i64 65535)).bind fun t18_20 =>
 condK t18_20 (
 (pr.bin .quo (getL q18.1 0) (LV.int .i64 65536)).bind fun t20_22 =>
 (pr.bin .rem (getL q18.1 0) (LV.int .i64 65536)).bind fun t22_24 =>
 (pr.bin .add t20_22 t22_24).bind fun t23_25 =>
 pr.round r3.2.2 .normal [t23_25] q18.2) (
 pr.round r3.2.2 (.exit 2) [(getL q18.1 0)] q18.2)) ([(getL r3.2.1 0)], r3.2.2)).bind fun r18 =>
 exIf r18.1 (.exit 2) (
 pr.fin none r18.2.2 [(getL r18.2.1 0)]) (none)) (none)
theorem F_interpreterref02_Total_eq (g : Call) (a0 : LV) : fnEv g c_interpreterref02_Total [a0] none = F_interpreterref02_Total g a0 := by kernel_rfl


end Go.Ev

/- Which functions are known. -/
namespace Go.Ev
structure Has (S : Sys) : Prop where
  h_interpreterlaw05_UdpWrites : S.fns id_interpreterlaw05_UdpWrites = some c_interpreterlaw05_UdpWrites
  h_interpreterlaw05_UdpReads : S.fns id_interpreterlaw05_UdpReads = some c_interpreterlaw05_UdpReads
  h_interpreterlaw05_UdpBack : S.fns id_interpreterlaw05_UdpBack = some c_interpreterlaw05_UdpBack
  h_interpreterlaw05_UdpMoves : S.fns id_interpreterlaw05_UdpMoves = some c_interpreterlaw05_UdpMoves
  h_interpreterlaw06_TcpKnown : S.fns id_interpreterlaw06_TcpKnown = some c_interpreterlaw06_TcpKnown
  h_interpreterlaw06_TcpWrites : S.fns id_interpreterlaw06_TcpWrites = some c_interpreterlaw06_TcpWrites
  h_interpreterlaw06_TcpReads : S.fns id_interpreterlaw06_TcpReads = some c_interpreterlaw06_TcpReads
  h_interpreterlaw06_TcpBack : S.fns id_interpreterlaw06_TcpBack = some c_interpreterlaw06_TcpBack
  h_interpreterlaw06_TcpAgain : S.fns id_interpreterlaw06_TcpAgain = some c_interpreterlaw06_TcpAgain
  h_interpreterlaw06_TcpMoves : S.fns id_interpreterlaw06_TcpMoves = some c_interpreterlaw06_TcpMoves
  h_interpreterlaw05_UdpKnown : S.fns id_interpreterlaw05_UdpKnown = some c_interpreterlaw05_UdpKnown
  h_interpreterlaw05_awake : S.fns id_interpreterlaw05_awake = some c_interpreterlaw05_awake
  h_udp_Bytes : S.fns id_udp_Bytes = some c_udp_Bytes
  h_interpreterref05_Bytes : S.fns id_interpreterref05_Bytes = some c_interpreterref05_Bytes
  h_interpreterlaw05_same : S.fns id_interpreterlaw05_same = some c_interpreterlaw05_same
  h_udp_Parse : S.fns id_udp_Parse = some c_udp_Parse
  h_interpreterref05_Parse : S.fns id_interpreterref05_Parse = some c_interpreterref05_Parse
  h_udp_Check : S.fns id_udp_Check = some c_udp_Check
  h_interpreterref05_Check : S.fns id_interpreterref05_Check = some c_interpreterref05_Check
  h_sum_Right : S.fns id_sum_Right = some c_sum_Right
  h_tcp_Parse : S.fns id_tcp_Parse = some c_tcp_Parse
  h_interpreterlaw06_raw : S.fns id_interpreterlaw06_raw = some c_interpreterlaw06_raw
  h_tcp_Bytes : S.fns id_tcp_Bytes = some c_tcp_Bytes
  h_interpreterlaw06_awake : S.fns id_interpreterlaw06_awake = some c_interpreterlaw06_awake
  h_interpreterlaw06_same : S.fns id_interpreterlaw06_same = some c_interpreterlaw06_same
  h_interpreterref06_Bytes : S.fns id_interpreterref06_Bytes = some c_interpreterref06_Bytes
  h_interpreterref06_Parse : S.fns id_interpreterref06_Parse = some c_interpreterref06_Parse
  h_tcp_Check : S.fns id_tcp_Check = some c_tcp_Check
  h_interpreterref06_Check : S.fns id_interpreterref06_Check = some c_interpreterref06_Check
  h_sum_Update : S.fns id_sum_Update = some c_sum_Update
  h_num_Big : S.fns id_num_Big = some c_num_Big
  h_udp_fault : S.fns id_udp_fault = some c_udp_fault
  h_sum_Of : S.fns id_sum_Of = some c_sum_Of
  h_interpreterref05_two : S.fns id_interpreterref05_two = some c_interpreterref05_two
  h_interpreterref02_Of : S.fns id_interpreterref02_Of = some c_interpreterref02_Of
  h_udp_two : S.fns id_udp_two = some c_udp_two
  h_interpreterref02_Words : S.fns id_interpreterref02_Words = some c_interpreterref02_Words
  h_tcp_fault : S.fns id_tcp_fault = some c_tcp_fault
  h_tcp_two : S.fns id_tcp_two = some c_tcp_two
  h_sum_fold : S.fns id_sum_fold = some c_sum_fold
  h_sum_add : S.fns id_sum_add = some c_sum_add
  h_sum_even : S.fns id_sum_even = some c_sum_even
  h_interpreterref02_Total : S.fns id_interpreterref02_Total = some c_interpreterref02_Total
  x_rep : HasRep S id_strings_Repeat
abbrev faultLV (c : Int) : LV := .ifc ty_ptr_num_Fault (.box (.agg [.int .i64 c, .int .i64 0]))
end Go.Ev

/- The system of this seat. -/
namespace Go.Ev
set_option maxRecDepth 100000
def table : List (Nat × MFn) := [
  (id_interpreterlaw05_UdpWrites, c_interpreterlaw05_UdpWrites),
  (id_interpreterlaw05_UdpReads, c_interpreterlaw05_UdpReads),
  (id_interpreterlaw05_UdpBack, c_interpreterlaw05_UdpBack),
  (id_interpreterlaw05_UdpMoves, c_interpreterlaw05_UdpMoves),
  (id_interpreterlaw06_TcpKnown, c_interpreterlaw06_TcpKnown),
  (id_interpreterlaw06_TcpWrites, c_interpreterlaw06_TcpWrites),
  (id_interpreterlaw06_TcpReads, c_interpreterlaw06_TcpReads),
  (id_interpreterlaw06_TcpBack, c_interpreterlaw06_TcpBack),
  (id_interpreterlaw06_TcpAgain, c_interpreterlaw06_TcpAgain),
  (id_interpreterlaw06_TcpMoves, c_interpreterlaw06_TcpMoves),
  (id_interpreterlaw05_UdpKnown, c_interpreterlaw05_UdpKnown),
  (id_interpreterlaw05_awake, c_interpreterlaw05_awake),
  (id_udp_Bytes, c_udp_Bytes),
  (id_interpreterref05_Bytes, c_interpreterref05_Bytes),
  (id_interpreterlaw05_same, c_interpreterlaw05_same),
  (id_udp_Parse, c_udp_Parse),
  (id_interpreterref05_Parse, c_interpreterref05_Parse),
  (id_udp_Check, c_udp_Check),
  (id_interpreterref05_Check, c_interpreterref05_Check),
  (id_sum_Right, c_sum_Right),
  (id_tcp_Parse, c_tcp_Parse),
  (id_interpreterlaw06_raw, c_interpreterlaw06_raw),
  (id_tcp_Bytes, c_tcp_Bytes),
  (id_interpreterlaw06_awake, c_interpreterlaw06_awake),
  (id_interpreterlaw06_same, c_interpreterlaw06_same),
  (id_interpreterref06_Bytes, c_interpreterref06_Bytes),
  (id_interpreterref06_Parse, c_interpreterref06_Parse),
  (id_tcp_Check, c_tcp_Check),
  (id_interpreterref06_Check, c_interpreterref06_Check),
  (id_sum_Update, c_sum_Update),
  (id_num_Big, c_num_Big),
  (id_udp_fault, c_udp_fault),
  (id_sum_Of, c_sum_Of),
  (id_interpreterref05_two, c_interpreterref05_two),
  (id_interpreterref02_Of, c_interpreterref02_Of),
  (id_udp_two, c_udp_two),
  (id_interpreterref02_Words, c_interpreterref02_Words),
  (id_tcp_fault, c_tcp_fault),
  (id_tcp_two, c_tcp_two),
  (id_sum_fold, c_sum_fold),
  (id_sum_add, c_sum_add),
  (id_sum_even, c_sum_even),
  (id_interpreterref02_Total, c_interpreterref02_Total)]
def sys : Sys := { fns := fun f => (table.find? fun p => p.1 == f).map (·.2), ext := extR id_strings_Repeat }
theorem sysHas : Has sys where
  h_interpreterlaw05_UdpWrites := by kernel_rfl
  h_interpreterlaw05_UdpReads := by kernel_rfl
  h_interpreterlaw05_UdpBack := by kernel_rfl
  h_interpreterlaw05_UdpMoves := by kernel_rfl
  h_interpreterlaw06_TcpKnown := by kernel_rfl
  h_interpreterlaw06_TcpWrites := by kernel_rfl
  h_interpreterlaw06_TcpReads := by kernel_rfl
  h_interpreterlaw06_TcpBack := by kernel_rfl
  h_interpreterlaw06_TcpAgain := by kernel_rfl
  h_interpreterlaw06_TcpMoves := by kernel_rfl
  h_interpreterlaw05_UdpKnown := by kernel_rfl
  h_interpreterlaw05_awake := by kernel_rfl
  h_udp_Bytes := by kernel_rfl
  h_interpreterref05_Bytes := by kernel_rfl
  h_interpreterlaw05_same := by kernel_rfl
  h_udp_Parse := by kernel_rfl
  h_interpreterref05_Parse := by kernel_rfl
  h_udp_Check := by kernel_rfl
  h_interpreterref05_Check := by kernel_rfl
  h_sum_Right := by kernel_rfl
  h_tcp_Parse := by kernel_rfl
  h_interpreterlaw06_raw := by kernel_rfl
  h_tcp_Bytes := by kernel_rfl
  h_interpreterlaw06_awake := by kernel_rfl
  h_interpreterlaw06_same := by kernel_rfl
  h_interpreterref06_Bytes := by kernel_rfl
  h_interpreterref06_Parse := by kernel_rfl
  h_tcp_Check := by kernel_rfl
  h_interpreterref06_Check := by kernel_rfl
  h_sum_Update := by kernel_rfl
  h_num_Big := by kernel_rfl
  h_udp_fault := by kernel_rfl
  h_sum_Of := by kernel_rfl
  h_interpreterref05_two := by kernel_rfl
  h_interpreterref02_Of := by kernel_rfl
  h_udp_two := by kernel_rfl
  h_interpreterref02_Words := by kernel_rfl
  h_tcp_fault := by kernel_rfl
  h_tcp_two := by kernel_rfl
  h_sum_fold := by kernel_rfl
  h_sum_add := by kernel_rfl
  h_sum_even := by kernel_rfl
  h_interpreterref02_Total := by kernel_rfl
  x_rep := ⟨by kernel_rfl, rfl⟩
end Go.Ev
