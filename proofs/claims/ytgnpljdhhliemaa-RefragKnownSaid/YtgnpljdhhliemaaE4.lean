/- Part 4 of a proof: what the functions yield. It stands by itself; no condition. -/
import Derived.Test.YtgnpljdhhliemaaE3
import Derived.KernelRfl
import Derived.Test.YtgnpljdhhliemaaE2
/- The functions, in plain Lean. -/
namespace Go.Ev
set_option linter.unusedVariables false
set_option maxRecDepth 100000
/-- interpreter/interpreterlaw17.RefragFour -/
noncomputable def F_interpreterlaw17_RefragFour (g : Call) (a0 : LV) (a1 : LV) : Option (LV × Option LV) :=
 (pr.box a0).bind fun t2_0 =>
 (pr.load 17 true noSlots t2_0).bind fun t12_2 =>
 (pr.call g id_interpreterlaw17_Great4 noSlots [t12_2]).bind fun t13_3 =>
 condK t13_3 (
 (pr.call g id_interpreterlaw17_wakes noSlots []).bind fun t14_4 =>
 pr.fin none noSlots [t14_4]) (
 (pr.load 17 true noSlots t2_0).bind fun t16_6 =>
 (pr.call g id_refrag_Cut4 noSlots [t16_6, a1]).bind fun t18_8 =>
 (pr.extract t18_8 0).bind fun t19_10 =>
 (pr.extract t18_8 1).bind fun t20_11 =>
 (pr.load 17 true noSlots t2_0).bind fun t22_14 =>
 (pr.call g id_ip4_Bytes noSlots [t22_14]).bind fun t23_15 =>
 (pr.extract t23_15 0).bind fun t24_17 =>
 (pr.extract t23_15 1).bind fun t25_18 =>
 (pr.eqNil 1 true t25_18).bind fun t27_22 =>
 condK t27_22 (
 (pr.len false t19_10).bind fun t29_24 =>
 (pr.bin .eql t29_24 (LV.int .i64 0)).bind fun t30_25 =>
 (pr.guard t30_25 true).bind fun b27 =>
 (if b27 = true then some t20_11 else some LV.undef).bind fun t32_27 =>
 (pr.guard t30_25 true).bind fun b28 =>
 (if b28 = true then pr.bin .eql t32_27 (LV.int .i64 1) else some LV.undef).bind fun t33_28 =>
 (pr.pick t30_25 t33_28 (LV.bool false)).bind fun t34_29 =>
 (pr.guard t34_29 true).bind fun b31 =>
 (if b31 = true then pr.load 17 true noSlots t2_0 else some LV.undef).bind fun t36_31 =>
 (pr.guard t34_29 true).bind fun b32 =>
 (if b32 = true then pr.call g id_refrag_Len4 noSlots [t36_31] else some LV.undef).bind fun t37_32 =>
 (pr.guard t34_29 true).bind fun b33 =>
 (if b33 = true then pr.bin .eql t37_32 (LV.int .i64 0) else some LV.undef).bind fun t38_33 =>
 (pr.pick t34_29 t38_33 (LV.bool false)).bind fun t39_34 =>
 (pr.guard t39_34 true).bind fun b36 =>
 (if b36 = true then pr.call g id_interpreterlaw17_wakes noSlots [] else some LV.undef).bind fun t41_36 =>
 (pr.pick t39_34 t41_36 (LV.bool false)).bind fun t42_37 =>
 pr.fin none noSlots [t42_37]) (
 (pr.load 17 true noSlots t2_0).bind fun t44_39 =>
 (pr.call g id_interpreterref17_Cut4 noSlots [t44_39, a1]).bind fun t46_41 =>
 (pr.extract t46_41 0).bind fun t47_43 =>
 (pr.extract t46_41 1).bind fun t48_44 =>
 (pr.bin .neq t20_11 t48_44).bind fun t51_49 =>
 (pr.guard t51_49 false).bind fun b51 =>
 (if b51 = true then some t19_10 else some LV.undef).bind fun t53_51 =>
 (pr.guard t51_49 false).bind fun b52 =>
 (if b52 = true then pr.len false t53_51 else some LV.undef).bind fun t54_52 =>
 (pr.guard t51_49 false).bind fun b53 =>
 (if b53 = true then some t47_43 else some LV.undef).bind fun t55_53 =>
 (pr.guard t51_49 false).bind fun b54 =>
 (if b54 = true then pr.len false t55_53 else some LV.undef).bind fun t56_54 =>
 (pr.guard t51_49 false).bind fun b55 =>
 (if b55 = true then pr.bin .neq t54_52 t56_54 else some LV.undef).bind fun t57_55 =>
 (pr.pick t51_49 (LV.bool true) t57_55).bind fun t58_56 =>
 (pr.guard t58_56 false).bind fun b58 =>
 (if b58 = true then pr.load 17 true noSlots t2_0 else some LV.undef).bind fun t60_58 =>
 (pr.guard t58_56 false).bind fun b59 =>
 (if b59 = true then pr.call g id_refrag_Len4 noSlots [t60_58] else some LV.undef).bind fun t61_59 =>
 (pr.guard t58_56 false).bind fun b60 =>
 (if b60 = true then pr.load 17 true noSlots t2_0 else some LV.undef).bind fun t62_60 =>
 (pr.guard t58_56 false).bind fun b61 =>
 (if b61 = true then pr.call g id_interpreterref17_Head4 noSlots [t62_60] else some LV.undef).bind fun t63_61 =>
 (pr.guard t58_56 false).bind fun b62 =>
 (if b62 = true then pr.fieldAddr 10 16 t2_0 else some LV.undef).bind fun t64_62 =>
 (pr.guard t58_56 false).bind fun b63 =>
 (if b63 = true then pr.load 1 false noSlots t64_62 else some LV.undef).bind fun t65_63 =>
 (pr.guard t58_56 false).bind fun b64 =>
 (if b64 = true then pr.len true t65_63 else some LV.undef).bind fun t66_64 =>
 (pr.guard t58_56 false).bind fun b65 =>
 (if b65 = true then pr.bin .add t63_61 t66_64 else some LV.undef).bind fun t67_65 =>
 (pr.guard t58_56 false).bind fun b66 =>
 (if b66 = true then pr.bin .neq t61_59 t67_65 else some LV.undef).bind fun t68_66 =>
 (pr.pick t58_56 (LV.bool true) t68_66).bind fun t69_67 =>
 condK t69_67 (
 pr.fin none noSlots [(LV.bool false)]) (
 (whileW (fun q70 : List LV × Slots =>
 (pr.len false t19_10).bind fun t72_73 =>
 (pr.bin .lss (getL q70.1 1) t72_73).bind fun t73_74 =>
 condK t73_74 (
 (pr.idxAddr none 17 t19_10 (getL q70.1 1)).bind fun t78_77 =>
 (pr.load 17 true q70.2 t78_77).bind fun t79_78 =>
 (pr.idxAddr none 17 t47_43 (getL q70.1 1)).bind fun t82_81 =>
 (pr.load 17 true q70.2 t82_81).bind fun t83_82 =>
 (pr.eqS (Sh.agg [(Sh.int .i64), (Sh.int .i64), (Sh.int .i64), (Sh.int .i64), (Sh.int .i64), Sh.bool, Sh.bool, (Sh.bytes 4), (Sh.bytes 4), Sh.str, Sh.str]) true t79_78 t83_82).bind fun t84_83 =>
 condK t84_83 (
 pr.round noSlots .ret [(LV.bool false), (getL q70.1 1)] q70.2) (
 (pr.bin .add (getL q70.1 1) (LV.int .i64 1)).bind fun t75_86 =>
 pr.round noSlots .normal [(getL q70.1 0), t75_86] q70.2)) (
 pr.round noSlots (.exit 0) [(getL q70.1 0), (getL q70.1 1)] q70.2)) ([(LV.bool false), (LV.int .i64 0)], noSlots)).bind fun r70 =>
 exIf r70.1 (.exit 0) (
 (pr.call g id_interpreterlaw17_wakes r70.2.2 []).bind fun t85_88 =>
 pr.fin none r70.2.2 [t85_88]) (exIf r70.1 .ret (
 pr.fin none r70.2.2 [(getL r70.2.1 0)]) (none)))))
theorem F_interpreterlaw17_RefragFour_eq (g : Call) (a0 : LV) (a1 : LV) : fnEv g c_interpreterlaw17_RefragFour [a0, a1] none = F_interpreterlaw17_RefragFour g a0 a1 := by kernel_rfl

/-- interpreter/interpreterlaw17.RefragSix -/
noncomputable def F_interpreterlaw17_RefragSix (g : Call) (a0 : LV) (a1 : LV) (a2 : LV) : Option (LV × Option LV) :=
 (pr.box a0).bind fun t3_0 =>
 (pr.load 42 true noSlots t3_0).bind fun t14_2 =>
 (pr.call g id_interpreterlaw17_Great6 noSlots [t14_2]).bind fun t15_3 =>
 condK t15_3 (
 (pr.call g id_interpreterlaw17_wakes noSlots []).bind fun t16_4 =>
 pr.fin none noSlots [t16_4]) (
 (pr.load 42 true noSlots t3_0).bind fun t18_6 =>
 (pr.call g id_refrag_Cut6 noSlots [t18_6, a1, a2]).bind fun t21_9 =>
 (pr.extract t21_9 0).bind fun t22_11 =>
 (pr.extract t21_9 1).bind fun t23_12 =>
 (pr.load 42 true noSlots t3_0).bind fun t25_15 =>
 (pr.call g id_ip6_Bytes noSlots [t25_15]).bind fun t26_16 =>
 (pr.extract t26_16 0).bind fun t27_18 =>
 (pr.extract t26_16 1).bind fun t28_19 =>
 (pr.eqNil 1 true t28_19).bind fun t30_23 =>
 condK t30_23 (
 (pr.len false t22_11).bind fun t32_25 =>
 (pr.bin .eql t32_25 (LV.int .i64 0)).bind fun t33_26 =>
 (pr.guard t33_26 true).bind fun b28 =>
 (if b28 = true then some t23_12 else some LV.undef).bind fun t35_28 =>
 (pr.guard t33_26 true).bind fun b29 =>
 (if b29 = true then pr.bin .eql t35_28 (LV.int .i64 1) else some LV.undef).bind fun t36_29 =>
 (pr.pick t33_26 t36_29 (LV.bool false)).bind fun t37_30 =>
 (pr.guard t37_30 true).bind fun b32 =>
 (if b32 = true then pr.load 42 true noSlots t3_0 else some LV.undef).bind fun t39_32 =>
 (pr.guard t37_30 true).bind fun b33 =>
 (if b33 = true then pr.call g id_refrag_Len6 noSlots [t39_32] else some LV.undef).bind fun t40_33 =>
 (pr.guard t37_30 true).bind fun b34 =>
 (if b34 = true then pr.bin .eql t40_33 (LV.int .i64 0) else some LV.undef).bind fun t41_34 =>
 (pr.pick t37_30 t41_34 (LV.bool false)).bind fun t42_35 =>
 (pr.guard t42_35 true).bind fun b37 =>
 (if b37 = true then pr.call g id_interpreterlaw17_wakes noSlots [] else some LV.undef).bind fun t44_37 =>
 (pr.pick t42_35 t44_37 (LV.bool false)).bind fun t45_38 =>
 pr.fin none noSlots [t45_38]) (
 (pr.load 42 true noSlots t3_0).bind fun t47_40 =>
 (pr.call g id_interpreterref17_Cut6 noSlots [t47_40, a1, a2]).bind fun t50_43 =>
 (pr.extract t50_43 0).bind fun t51_45 =>
 (pr.extract t50_43 1).bind fun t52_46 =>
 (pr.bin .neq t23_12 t52_46).bind fun t55_51 =>
 (pr.guard t55_51 false).bind fun b53 =>
 (if b53 = true then some t22_11 else some LV.undef).bind fun t57_53 =>
 (pr.guard t55_51 false).bind fun b54 =>
 (if b54 = true then pr.len false t57_53 else some LV.undef).bind fun t58_54 =>
 (pr.guard t55_51 false).bind fun b55 =>
 (if b55 = true then some t51_45 else some LV.undef).bind fun t59_55 =>
 (pr.guard t55_51 false).bind fun b56 =>
 (if b56 = true then pr.len false t59_55 else some LV.undef).bind fun t60_56 =>
 (pr.guard t55_51 false).bind fun b57 =>
 (if b57 = true then pr.bin .neq t58_54 t60_56 else some LV.undef).bind fun t61_57 =>
 (pr.pick t55_51 (LV.bool true) t61_57).bind fun t62_58 =>
 (pr.guard t62_58 false).bind fun b60 =>
 (if b60 = true then pr.load 42 true noSlots t3_0 else some LV.undef).bind fun t64_60 =>
 (pr.guard t62_58 false).bind fun b61 =>
 (if b61 = true then pr.call g id_refrag_Len6 noSlots [t64_60] else some LV.undef).bind fun t65_61 =>
 (pr.guard t62_58 false).bind fun b62 =>
 (if b62 = true then pr.load 42 true noSlots t3_0 else some LV.undef).bind fun t66_62 =>
 (pr.guard t62_58 false).bind fun b63 =>
 (if b63 = true then pr.call g id_interpreterref17_Head6 noSlots [t66_62] else some LV.undef).bind fun t67_63 =>
 (pr.guard t62_58 false).bind fun b64 =>
 (if b64 = true then pr.fieldAddr 11 41 t3_0 else some LV.undef).bind fun t68_64 =>
 (pr.guard t62_58 false).bind fun b65 =>
 (if b65 = true then pr.load 1 false noSlots t68_64 else some LV.undef).bind fun t69_65 =>
 (pr.guard t62_58 false).bind fun b66 =>
 (if b66 = true then pr.len true t69_65 else some LV.undef).bind fun t70_66 =>
 (pr.guard t62_58 false).bind fun b67 =>
 (if b67 = true then pr.bin .add t67_63 t70_66 else some LV.undef).bind fun t71_67 =>
 (pr.guard t62_58 false).bind fun b68 =>
 (if b68 = true then pr.bin .neq t65_61 t71_67 else some LV.undef).bind fun t72_68 =>
 (pr.pick t62_58 (LV.bool true) t72_68).bind fun t73_69 =>
 condK t73_69 (
 pr.fin none noSlots [(LV.bool false)]) (
 (whileW (fun q72 : List LV × Slots =>
 (pr.len false t22_11).bind fun t76_75 =>
 (pr.bin .lss (getL q72.1 1) t76_75).bind fun t77_76 =>
 condK t77_76 (
 (pr.idxAddr none 42 t22_11 (getL q72.1 1)).bind fun t82_79 =>
 (pr.load 42 true q72.2 t82_79).bind fun t83_80 =>
 (pr.idxAddr none 42 t51_45 (getL q72.1 1)).bind fun t86_83 =>
 (pr.load 42 true q72.2 t86_83).bind fun t87_84 =>
 (pr.call g id_interpreterlaw17_same6 q72.2 [t83_80, t87_84]).bind fun t88_85 =>
 (pr.un .not t88_85).bind fun t89_86 =>
 condK t89_86 (
 pr.round noSlots .ret [(LV.bool false), (getL q72.1 1)] q72.2) (
 (pr.bin .add (getL q72.1 1) (LV.int .i64 1)).bind fun t79_89 =>
 pr.round noSlots .normal [(getL q72.1 0), t79_89] q72.2)) (
 pr.round noSlots (.exit 0) [(getL q72.1 0), (getL q72.1 1)] q72.2)) ([(LV.bool false), (LV.int .i64 0)], noSlots)).bind fun r72 =>
 exIf r72.1 (.exit 0) (
 (pr.call g id_interpreterlaw17_wakes r72.2.2 []).bind fun t90_91 =>
 pr.fin none r72.2.2 [t90_91]) (exIf r72.1 .ret (
 pr.fin none r72.2.2 [(getL r72.2.1 0)]) (none)))))
theorem F_interpreterlaw17_RefragSix_eq (g : Call) (a0 : LV) (a1 : LV) (a2 : LV) : fnEv g c_interpreterlaw17_RefragSix [a0, a1, a2] none = F_interpreterlaw17_RefragSix g a0 a1 a2 := by kernel_rfl

/-- interpreter/interpreterlaw17.RefragAgain -/
noncomputable def F_interpreterlaw17_RefragAgain (g : Call) (a0 : LV) (a1 : LV) (a2 : LV) : Option (LV × Option LV) :=
 (pr.box a0).bind fun t3_0 =>
 (pr.load 17 true noSlots t3_0).bind fun t17_2 =>
 (pr.call g id_interpreterlaw17_Great4 noSlots [t17_2]).bind fun t18_3 =>
 condK t18_3 (
 (pr.call g id_interpreterlaw17_wakes noSlots []).bind fun t19_4 =>
 pr.fin none noSlots [t19_4]) (
 (pr.load 17 true noSlots t3_0).bind fun t21_6 =>
 (pr.call g id_refrag_Cut4 noSlots [t21_6, a1]).bind fun t23_8 =>
 (pr.extract t23_8 0).bind fun t24_10 =>
 (pr.extract t23_8 1).bind fun t25_11 =>
 (pr.bin .neq t25_11 (LV.int .i64 0)).bind fun t27_15 =>
 condK t27_15 (
 (pr.len false t24_10).bind fun t29_17 =>
 (pr.bin .eql t29_17 (LV.int .i64 0)).bind fun t30_18 =>
 (pr.guard t30_18 true).bind fun b20 =>
 (if b20 = true then pr.call g id_interpreterlaw17_wakes noSlots [] else some LV.undef).bind fun t32_20 =>
 (pr.pick t30_18 t32_20 (LV.bool false)).bind fun t33_21 =>
 pr.fin none noSlots [t33_21]) (
 (pr.fieldAddr 4 4 t3_0).bind fun t34_23 =>
 (pr.load 1 false noSlots t34_23).bind fun t35_24 =>
 (whileW (fun q29 : List LV × Slots =>
 (pr.len false t24_10).bind fun t38_32 =>
 (pr.bin .lss (getL q29.1 4) t38_32).bind fun t39_33 =>
 condK t39_33 (
 (pr.idxAddr none 17 t24_10 (getL q29.1 4)).bind fun t45_36 =>
 (pr.load 17 true q29.2 t45_36).bind fun t46_37 =>
 (pr.call g id_refrag_Cut4 q29.2 [t46_37, a2]).bind fun t48_39 =>
 (pr.extract t48_39 0).bind fun t49_41 =>
 (pr.extract t48_39 1).bind fun t50_42 =>
 (pr.bin .neq t50_42 (LV.int .i64 0)).bind fun t52_46 =>
 condK t52_46 (
 (pr.len false t49_41).bind fun t54_48 =>
 (pr.bin .eql t54_48 (LV.int .i64 0)).bind fun t55_49 =>
 (pr.guard t55_49 true).bind fun b51 =>
 (if b51 = true then pr.call g id_interpreterlaw17_wakes q29.2 [] else some LV.undef).bind fun t57_51 =>
 (pr.pick t55_49 t57_51 (LV.bool false)).bind fun t58_52 =>
 pr.round noSlots .ret [t58_52, (getL q29.1 1), (getL q29.1 2), (getL q29.1 3), (getL q29.1 4)] q29.2) (
 (whileW (fun q55 : List LV × Slots =>
 (pr.len false t49_41).bind fun t61_58 =>
 (pr.bin .lss (getL q55.1 4) t61_58).bind fun t62_59 =>
 condK t62_59 (
 (pr.idxAddr none 17 t49_41 (getL q55.1 4)).bind fun t67_62 =>
 (pr.fieldAddr 4 4 t67_62).bind fun t68_63 =>
 (pr.load 1 false q55.2 t68_63).bind fun t69_64 =>
 (pr.bin .neq t69_64 (getL q55.1 1)).bind fun t71_66 =>
 (pr.guard t71_66 false).bind fun b68 =>
 (if b68 = true then some t49_41 else some LV.undef).bind fun t73_68 =>
 (pr.guard t71_66 false).bind fun b69 =>
 (if b69 = true then some (getL q55.1 4) else some LV.undef).bind fun t74_69 =>
 (pr.guard t71_66 false).bind fun b70 =>
 (if b70 = true then pr.idxAddr none 17 t73_68 t74_69 else some LV.undef).bind fun t75_70 =>
 (pr.guard t71_66 false).bind fun b71 =>
 (if b71 = true then pr.fieldAddr 1 1 t75_70 else some LV.undef).bind fun t76_71 =>
 (pr.guard t71_66 false).bind fun b72 =>
 (if b72 = true then pr.load 1 false q55.2 t76_71 else some LV.undef).bind fun t77_72 =>
 (pr.guard t71_66 false).bind fun b73 =>
 (if b73 = true then pr.fieldAddr 1 1 t3_0 else some LV.undef).bind fun t78_73 =>
 (pr.guard t71_66 false).bind fun b74 =>
 (if b74 = true then pr.load 1 false q55.2 t78_73 else some LV.undef).bind fun t79_74 =>
 (pr.guard t71_66 false).bind fun b75 =>
 (if b75 = true then pr.bin .neq t77_72 t79_74 else some LV.undef).bind fun t80_75 =>
 (pr.pick t71_66 (LV.bool true) t80_75).bind fun t81_76 =>
 (pr.guard t81_76 false).bind fun b78 =>
 (if b78 = true then some t49_41 else some LV.undef).bind fun t83_78 =>
 (pr.guard t81_76 false).bind fun b79 =>
 (if b79 = true then some (getL q55.1 4) else some LV.undef).bind fun t84_79 =>
 (pr.guard t81_76 false).bind fun b80 =>
 (if b80 = true then pr.idxAddr none 17 t83_78 t84_79 else some LV.undef).bind fun t85_80 =>
 (pr.guard t81_76 false).bind fun b81 =>
 (if b81 = true then pr.fieldAddr 9 15 t85_80 else some LV.undef).bind fun t86_81 =>
 (pr.guard t81_76 false).bind fun b82 =>
 (if b82 = true then pr.load 1 false q55.2 t86_81 else some LV.undef).bind fun t87_82 =>
 (pr.guard t81_76 false).bind fun b83 =>
 (if b83 = true then pr.fieldAddr 9 15 t3_0 else some LV.undef).bind fun t88_83 =>
 (pr.guard t81_76 false).bind fun b84 =>
 (if b84 = true then pr.load 1 false q55.2 t88_83 else some LV.undef).bind fun t89_84 =>
 (pr.guard t81_76 false).bind fun b85 =>
 (if b85 = true then pr.bin .neq t87_82 t89_84 else some LV.undef).bind fun t90_85 =>
 (pr.pick t81_76 (LV.bool true) t90_85).bind fun t91_86 =>
 (pr.guard t91_86 false).bind fun b88 =>
 (if b88 = true then some t49_41 else some LV.undef).bind fun t93_88 =>
 (pr.guard t91_86 false).bind fun b89 =>
 (if b89 = true then some (getL q55.1 4) else some LV.undef).bind fun t94_89 =>
 (pr.guard t91_86 false).bind fun b90 =>
 (if b90 = true then pr.idxAddr none 17 t93_88 t94_89 else some LV.undef).bind fun t95_90 =>
 (pr.guard t91_86 false).bind fun b91 =>
 (if b91 = true then pr.fieldAddr 2 2 t95_90 else some LV.undef).bind fun t96_91 =>
 (pr.guard t91_86 false).bind fun b92 =>
 (if b92 = true then pr.load 1 false q55.2 t96_91 else some LV.undef).bind fun t97_92 =>
 (pr.guard t91_86 false).bind fun b93 =>
 (if b93 = true then pr.fieldAddr 2 2 t3_0 else some LV.undef).bind fun t98_93 =>
 (pr.guard t91_86 false).bind fun b94 =>
 (if b94 = true then pr.load 1 false q55.2 t98_93 else some LV.undef).bind fun t99_94 =>
 (pr.guard t91_86 false).bind fun b95 =>
 (if b95 = true then pr.bin .neq t97_92 t99_94 else some LV.undef).bind fun t100_95 =>
 (pr.pick t91_86 (LV.bool true) t100_95).bind fun t101_96 =>
 condK t101_96 (
 pr.round q29.2 .ret [(LV.bool false), (getL q55.1 1), (getL q55.1 2), (getL q55.1 3), (getL q55.1 4)] q55.2) (
 (pr.idxAddr none 17 t49_41 (getL q55.1 4)).bind fun t105_101 =>
 (pr.fieldAddr 10 16 t105_101).bind fun t106_102 =>
 (pr.load 1 false q55.2 t106_102).bind fun t107_103 =>
 (pr.len true t107_103).bind fun t108_104 =>
 (pr.bin .add (getL q55.1 1) t108_104).bind fun t109_105 =>
 (pr.idxAddr none 17 t49_41 (getL q55.1 4)).bind fun t113_110 =>
 (pr.fieldAddr 10 16 t113_110).bind fun t114_111 =>
 (pr.load 1 false q55.2 t114_111).bind fun t115_112 =>
 (pr.bin .add (getL q55.1 2) t115_112).bind fun t116_113 =>
 (pr.idxAddr none 17 t49_41 (getL q55.1 4)).bind fun t119_117 =>
 (pr.fieldAddr 6 6 t119_117).bind fun t120_118 =>
 (pr.load 1 false q55.2 t120_118).bind fun t121_119 =>
 (pr.len false t24_10).bind fun t124_123 =>
 (pr.bin .sub t124_123 (LV.int .i64 1)).bind fun t125_124 =>
 (pr.bin .eql (getL q29.1 4) t125_124).bind fun t126_125 =>
 (pr.guard t126_125 true).bind fun b127 =>
 (if b127 = true then some (getL q55.1 4) else some LV.undef).bind fun t128_127 =>
 (pr.guard t126_125 true).bind fun b128 =>
 (if b128 = true then some t49_41 else some LV.undef).bind fun t129_128 =>
 (pr.guard t126_125 true).bind fun b129 =>
 (if b129 = true then pr.len false t129_128 else some LV.undef).bind fun t130_129 =>
 (pr.guard t126_125 true).bind fun b130 =>
 (if b130 = true then pr.bin .sub t130_129 (LV.int .i64 1) else some LV.undef).bind fun t131_130 =>
 (pr.guard t126_125 true).bind fun b131 =>
 (if b131 = true then pr.bin .eql t128_127 t131_130 else some LV.undef).bind fun t132_131 =>
 (pr.pick t126_125 t132_131 (LV.bool false)).bind fun t133_132 =>
 (pr.un .not t133_132).bind fun t135_135 =>
 (pr.guard t135_135 true).bind fun b137 =>
 (if b137 = true then some t121_119 else some LV.undef).bind fun t137_137 =>
 (pr.guard t135_135 true).bind fun b138 =>
 (if b138 = true then pr.un .not t137_137 else some LV.undef).bind fun t138_138 =>
 (pr.pick t135_135 t138_138 (LV.bool false)).bind fun t139_139 =>
 condK t139_139 (
 pr.round q29.2 .ret [(LV.bool false), t109_105, t116_113, t121_119, (getL q55.1 4)] q55.2) (
 (pr.bin .add (getL q55.1 4) (LV.int .i64 1)).bind fun t64_142 =>
 pr.round q29.2 .normal [(getL q55.1 0), t109_105, t116_113, t121_119, t64_142] q55.2))) (
 pr.round q29.2 (.exit 2) [(getL q55.1 0), (getL q55.1 1), (getL q55.1 2), (getL q55.1 3), (getL q55.1 4)] q55.2)) ([(getL q29.1 0), (getL q29.1 1), (getL q29.1 2), (getL q29.1 3), (LV.int .i64 0)], q29.2)).bind fun r55 =>
 exIf r55.1 (.exit 2) (
 (pr.bin .add (getL q29.1 4) (LV.int .i64 1)).bind fun t41_145 =>
 pr.round noSlots .normal [(getL r55.2.1 0), (getL r55.2.1 1), (getL r55.2.1 2), (getL r55.2.1 3), t41_145] r55.2.2) (exIf r55.1 .ret (
 pr.round noSlots .ret [(getL r55.2.1 0), (getL r55.2.1 1), (getL r55.2.1 2), (getL r55.2.1 3), (getL q29.1 4)] r55.2.2) (exIf r55.1 .ret (
 pr.round noSlots .ret [(getL r55.2.1 0), (getL r55.2.1 1), (getL r55.2.1 2), (getL r55.2.1 3), (getL q29.1 4)] r55.2.2) (none))))) (
 pr.round noSlots (.exit 0) [(getL q29.1 0), (getL q29.1 1), (getL q29.1 2), (getL q29.1 3), (getL q29.1 4)] q29.2)) ([(LV.bool false), t35_24, (LV.str []), (LV.bool false), (LV.int .i64 0)], noSlots)).bind fun r29 =>
 exIf r29.1 (.exit 0) (
 (pr.fieldAddr 10 16 t3_0).bind fun t141_148 =>
 (pr.load 1 false r29.2.2 t141_148).bind fun t142_149 =>
 (pr.bin .eql (getL r29.2.1 2) t142_149).bind fun t143_150 =>
 (pr.guard t143_150 true).bind fun b152 =>
 (if b152 = true then some (getL r29.2.1 3) else some LV.undef).bind fun t145_152 =>
 (pr.guard t143_150 true).bind fun b153 =>
 (if b153 = true then pr.fieldAddr 6 6 t3_0 else some LV.undef).bind fun t146_153 =>
 (pr.guard t143_150 true).bind fun b154 =>
 (if b154 = true then pr.load 1 false r29.2.2 t146_153 else some LV.undef).bind fun t147_154 =>
 (pr.guard t143_150 true).bind fun b155 =>
 (if b155 = true then pr.eqB false t145_152 t147_154 else some LV.undef).bind fun t148_155 =>
 (pr.pick t143_150 t148_155 (LV.bool false)).bind fun t149_156 =>
 (pr.guard t149_156 true).bind fun b158 =>
 (if b158 = true then pr.call g id_interpreterlaw17_wakes r29.2.2 [] else some LV.undef).bind fun t151_158 =>
 (pr.pick t149_156 t151_158 (LV.bool false)).bind fun t152_159 =>
 pr.fin none r29.2.2 [t152_159]) (exIf r29.1 .ret (
 pr.fin none r29.2.2 [(getL r29.2.1 0)]) (exIf r29.1 .ret (
 pr.fin none r29.2.2 [(getL r29.2.1 0)]) (exIf r29.1 .ret (
 pr.fin none r29.2.2 [(getL r29.2.1 0)]) (none))))))
theorem F_interpreterlaw17_RefragAgain_eq (g : Call) (a0 : LV) (a1 : LV) (a2 : LV) : fnEv g c_interpreterlaw17_RefragAgain [a0, a1, a2] none = F_interpreterlaw17_RefragAgain g a0 a1 a2 := by kernel_rfl

/-- interpreter/interpreterlaw17.RefragKnown -/
noncomputable def F_interpreterlaw17_RefragKnown (g : Call) : Option (LV × Option LV) :=
 (pr.call g id_interpreterlaw17_four noSlots [(LV.int .i64 100)]).bind fun t31_1 =>
 (pr.call g id_refrag_Cut4 noSlots [t31_1, (LV.int .i64 68)]).bind fun t32_2 =>
 (pr.extract t32_2 0).bind fun t33_4 =>
 (pr.extract t32_2 1).bind fun t34_5 =>
 (pr.bin .neq t34_5 (LV.int .i64 0)).bind fun t36_9 =>
 (pr.guard t36_9 false).bind fun b11 =>
 (if b11 = true then some t33_4 else some LV.undef).bind fun t38_11 =>
 (pr.guard t36_9 false).bind fun b12 =>
 (if b12 = true then pr.len false t38_11 else some LV.undef).bind fun t39_12 =>
 (pr.guard t36_9 false).bind fun b13 =>
 (if b13 = true then pr.bin .neq t39_12 (LV.int .i64 3) else some LV.undef).bind fun t40_13 =>
 (pr.pick t36_9 (LV.bool true) t40_13).bind fun t41_14 =>
 condK t41_14 (
 pr.fin none noSlots [(LV.bool false)]) (
 (pr.bsl (LV.int .i64 0) 3 [(0, (LV.int .i64 0)), (1, (LV.int .i64 48)), (2, (LV.int .i64 96))]).bind fun t42_16 =>
 (pr.bsl (LV.int .i64 0) 3 [(0, (LV.int .i64 48)), (1, (LV.int .i64 48)), (2, (LV.int .i64 4))]).bind fun t43_18 =>
 (whileW (fun q21 : List LV × Slots =>
 (pr.bin .lss (getL q21.1 1) (LV.int .i64 3)).bind fun t45_23 =>
 condK t45_23 (
 (pr.idxAddr none 17 t33_4 (getL q21.1 1)).bind fun t50_26 =>
 (pr.fieldAddr 4 4 t50_26).bind fun t51_27 =>
 (pr.load 1 false q21.2 t51_27).bind fun t52_28 =>
 (pr.idxAddr none 1 t42_16 (getL q21.1 1)).bind fun t55_31 =>
 (pr.load 1 false q21.2 t55_31).bind fun t56_32 =>
 (pr.bin .neq t52_28 t56_32).bind fun t57_33 =>
 (pr.guard t57_33 false).bind fun b35 =>
 (if b35 = true then some t33_4 else some LV.undef).bind fun t59_35 =>
 (pr.guard t57_33 false).bind fun b36 =>
 (if b36 = true then some (getL q21.1 1) else some LV.undef).bind fun t60_36 =>
 (pr.guard t57_33 false).bind fun b37 =>
 (if b37 = true then pr.idxAddr none 17 t59_35 t60_36 else some LV.undef).bind fun t61_37 =>
 (pr.guard t57_33 false).bind fun b38 =>
 (if b38 = true then pr.fieldAddr 10 16 t61_37 else some LV.undef).bind fun t62_38 =>
 (pr.guard t57_33 false).bind fun b39 =>
 (if b39 = true then pr.load 1 false q21.2 t62_38 else some LV.undef).bind fun t63_39 =>
 (pr.guard t57_33 false).bind fun b40 =>
 (if b40 = true then pr.len true t63_39 else some LV.undef).bind fun t64_40 =>
 (pr.guard t57_33 false).bind fun b41 =>
 (if b41 = true then some t43_18 else some LV.undef).bind fun t65_41 =>
 (pr.guard t57_33 false).bind fun b42 =>
 (if b42 = true then some (getL q21.1 1) else some LV.undef).bind fun t66_42 =>
 (pr.guard t57_33 false).bind fun b43 =>
 (if b43 = true then pr.idxAddr none 1 t65_41 t66_42 else some LV.undef).bind fun t67_43 =>
 (pr.guard t57_33 false).bind fun b44 =>
 (if b44 = true then pr.load 1 false q21.2 t67_43 else some LV.undef).bind fun t68_44 =>
 (pr.guard t57_33 false).bind fun b45 =>
 (if b45 = true then pr.bin .neq t64_40 t68_44 else some LV.undef).bind fun t69_45 =>
 (pr.pick t57_33 (LV.bool true) t69_45).bind fun t70_46 =>
 (pr.guard t70_46 false).bind fun b48 =>
 (if b48 = true then some t33_4 else some LV.undef).bind fun t72_48 =>
 (pr.guard t70_46 false).bind fun b49 =>
 (if b49 = true then some (getL q21.1 1) else some LV.undef).bind fun t73_49 =>
 (pr.guard t70_46 false).bind fun b50 =>
 (if b50 = true then pr.idxAddr none 17 t72_48 t73_49 else some LV.undef).bind fun t74_50 =>
 (pr.guard t70_46 false).bind fun b51 =>
 (if b51 = true then pr.fieldAddr 6 6 t74_50 else some LV.undef).bind fun t75_51 =>
 (pr.guard t70_46 false).bind fun b52 =>
 (if b52 = true then pr.load 1 false q21.2 t75_51 else some LV.undef).bind fun t76_52 =>
 (pr.guard t70_46 false).bind fun b53 =>
 (if b53 = true then some (getL q21.1 1) else some LV.undef).bind fun t77_53 =>
 (pr.guard t70_46 false).bind fun b54 =>
 (if b54 = true then pr.bin .lss t77_53 (LV.int .i64 2) else some LV.undef).bind fun t78_54 =>
 (pr.guard t70_46 false).bind fun b55 =>
 (if b55 = true then pr.eqB true t76_52 t78_54 else some LV.undef).bind fun t79_55 =>
 (pr.pick t70_46 (LV.bool true) t79_55).bind fun t80_56 =>
 (pr.guard t80_56 false).bind fun b58 =>
 (if b58 = true then some t33_4 else some LV.undef).bind fun t82_58 =>
 (pr.guard t80_56 false).bind fun b59 =>
 (if b59 = true then some (getL q21.1 1) else some LV.undef).bind fun t83_59 =>
 (pr.guard t80_56 false).bind fun b60 =>
 (if b60 = true then pr.idxAddr none 17 t82_58 t83_59 else some LV.undef).bind fun t84_60 =>
 (pr.guard t80_56 false).bind fun b61 =>
 (if b61 = true then pr.fieldAddr 3 3 t84_60 else some LV.undef).bind fun t85_61 =>
 (pr.guard t80_56 false).bind fun b62 =>
 (if b62 = true then pr.load 1 false q21.2 t85_61 else some LV.undef).bind fun t86_62 =>
 (pr.guard t80_56 false).bind fun b63 =>
 (if b63 = true then pr.bin .neq t86_62 (LV.int .i64 17) else some LV.undef).bind fun t87_63 =>
 (pr.pick t80_56 (LV.bool true) t87_63).bind fun t88_64 =>
 condK t88_64 (
 pr.round noSlots .ret [(LV.bool false), (getL q21.1 1)] q21.2) (
 (pr.bin .add (getL q21.1 1) (LV.int .i64 1)).bind fun t47_67 =>
 pr.round noSlots .normal [(getL q21.1 0), t47_67] q21.2)) (
 pr.round noSlots (.exit 0) [(getL q21.1 0), (getL q21.1 1)] q21.2)) ([(LV.bool false), (LV.int .i64 0)], noSlots)).bind fun r21 =>
 exIf r21.1 (.exit 0) (
 (pr.call g id_interpreterlaw17_four r21.2.2 [(LV.int .i64 100)]).bind fun t89_69 =>
 (pr.alloc (LV.agg [(LV.int .i64 0), (LV.int .i64 0), (LV.int .i64 0), (LV.int .i64 0), (LV.int .i64 0), (LV.bool false), (LV.bool false), (LV.bytes [0, 0, 0, 0]), (LV.bytes [0, 0, 0, 0]), (LV.str []), (LV.str [])]) 6 r21.2.2).bind fun t6_70 =>
 (pr.store 17 true t6_70.2 t6_70.1 t89_69).bind fun u71 =>
 (pr.fieldAddr 5 5 t6_70.1).bind fun t90_72 =>
 (pr.store 1 false u71.2 t90_72 (LV.bool true)).bind fun u73 =>
 (pr.load 17 true u73.2 t6_70.1).bind fun t92_74 =>
 (pr.call g id_refrag_Cut4 u73.2 [t92_74, (LV.int .i64 68)]).bind fun t93_75 =>
 (pr.extract t93_75 0).bind fun t94_77 =>
 (pr.extract t93_75 1).bind fun t95_78 =>
 (pr.load 17 true u73.2 t6_70.1).bind fun t97_81 =>
 (pr.call g id_refrag_Cut4 u73.2 [t97_81, (LV.int .i64 67)]).bind fun t98_82 =>
 (pr.extract t98_82 0).bind fun t99_84 =>
 (pr.extract t98_82 1).bind fun t100_85 =>
 (pr.load 17 true u73.2 t6_70.1).bind fun t102_88 =>
 (pr.call g id_refrag_Cut4 u73.2 [t102_88, (LV.int .i64 65536)]).bind fun t103_89 =>
 (pr.extract t103_89 0).bind fun t104_91 =>
 (pr.extract t103_89 1).bind fun t105_92 =>
 (pr.load 17 true u73.2 t6_70.1).bind fun t107_95 =>
 (pr.call g id_refrag_Cut4 u73.2 [t107_95, (LV.int .i64 120)]).bind fun t108_96 =>
 (pr.extract t108_96 0).bind fun t109_98 =>
 (pr.extract t108_96 1).bind fun t110_99 =>
 (pr.call g id_interpreterlaw17_four u73.2 [(LV.int .i64 1)]).bind fun t111_102 =>
 (pr.alloc (LV.agg [(LV.int .i64 0), (LV.int .i64 0), (LV.int .i64 0), (LV.int .i64 0), (LV.int .i64 0), (LV.bool false), (LV.bool false), (LV.bytes [0, 0, 0, 0]), (LV.bytes [0, 0, 0, 0]), (LV.str []), (LV.str [])]) 15 u73.2).bind fun t15_103 =>
 (pr.store 17 true t15_103.2 t15_103.1 t111_102).bind fun u104 =>
 (pr.fieldAddr 2 2 t15_103.1).bind fun t112_105 =>
 (pr.store 1 false u104.2 t112_105 (LV.int .i64 256)).bind fun u106 =>
 (pr.load 17 true u106.2 t15_103.1).bind fun t114_107 =>
 (pr.call g id_refrag_Cut4 u106.2 [t114_107, (LV.int .i64 100)]).bind fun t115_108 =>
 (pr.extract t115_108 0).bind fun t116_110 =>
 (pr.extract t115_108 1).bind fun t117_111 =>
 (pr.call g id_interpreterlaw17_six u106.2 [(LV.int .i64 1241)]).bind fun t119_114 =>
 (pr.call g id_refrag_Cut6 u106.2 [t119_114, (LV.int .i64 1280), (LV.int .u32 7)]).bind fun t120_115 =>
 (pr.extract t120_115 0).bind fun t121_117 =>
 (pr.extract t120_115 1).bind fun t122_118 =>
 (pr.bin .neq t122_118 (LV.int .i64 0)).bind fun t124_122 =>
 (pr.guard t124_122 false).bind fun b124 =>
 (if b124 = true then some t121_117 else some LV.undef).bind fun t126_124 =>
 (pr.guard t124_122 false).bind fun b125 =>
 (if b125 = true then pr.len false t126_124 else some LV.undef).bind fun t127_125 =>
 (pr.guard t124_122 false).bind fun b126 =>
 (if b126 = true then pr.bin .neq t127_125 (LV.int .i64 2) else some LV.undef).bind fun t128_126 =>
 (pr.pick t124_122 (LV.bool true) t128_126).bind fun t129_127 =>
 condK t129_127 (
 pr.fin none u106.2 [(LV.bool false)]) (
 (pr.call g id_interpreterlaw17_six u106.2 [(LV.int .i64 1240)]).bind fun t131_129 =>
 (pr.call g id_refrag_Cut6 u106.2 [t131_129, (LV.int .i64 1280), (LV.int .u32 7)]).bind fun t132_130 =>
 (pr.extract t132_130 0).bind fun t133_132 =>
 (pr.extract t132_130 1).bind fun t134_133 =>
 (pr.call g id_interpreterlaw17_six u106.2 [(LV.int .i64 1)]).bind fun t136_136 =>
 (pr.call g id_refrag_Cut6 u106.2 [t136_136, (LV.int .i64 1279), (LV.int .u32 7)]).bind fun t137_137 =>
 (pr.extract t137_137 0).bind fun t138_139 =>
 (pr.extract t137_137 1).bind fun t139_140 =>
 (pr.call g id_interpreterlaw17_six u106.2 [(LV.int .i64 1)]).bind fun t140_143 =>
 (pr.alloc (LV.agg [(LV.int .i64 0), (LV.int .i64 0), (LV.int .i64 0), (LV.bytes [0, 0, 0, 0, 0, 0, 0, 0, 0, 0, 0, 0, 0, 0, 0, 0]), (LV.bytes [0, 0, 0, 0, 0, 0, 0, 0, 0, 0, 0, 0, 0, 0, 0, 0]), LV.nils, (LV.bool false), (LV.int .u32 0), (LV.int .i64 0), (LV.bool false), (LV.int .i64 0), (LV.str [])]) 24 u106.2).bind fun t24_144 =>
 (pr.store 42 true t24_144.2 t24_144.1 t140_143).bind fun u145 =>
 (pr.mkSl 141 u145.2 (LV.int .i64 1230) (LV.int .i64 1230)).bind fun t141_146 =>
 (pr.b2s t141_146.2 t141_146.1).bind fun t142_147 =>
 (pr.parts (LV.agg [(LV.int .i64 0), (LV.str [])]) [(0, (LV.int .i64 60)), (1, t142_147)]).bind fun t143_148 =>
 (pr.bsl (LV.agg [(LV.int .i64 0), (LV.str [])]) 1 [(0, t143_148)]).bind fun t144_149 =>
 (pr.fieldAddr 5 35 t24_144.1).bind fun t145_150 =>
 (pr.store 1 false t141_146.2 t145_150 t144_149).bind fun u151 =>
 (pr.load 42 true u151.2 t24_144.1).bind fun t147_152 =>
 (pr.call g id_refrag_Cut6 u151.2 [t147_152, (LV.int .i64 1280), (LV.int .u32 7)]).bind fun t148_153 =>
 (pr.extract t148_153 0).bind fun t149_155 =>
 (pr.extract t148_153 1).bind fun t150_156 =>
 (pr.mkSl 151 u151.2 (LV.int .i64 9) (LV.int .i64 9)).bind fun t151_159 =>
 (pr.b2s t151_159.2 t151_159.1).bind fun t152_160 =>
 (pr.fieldAddr 11 41 t24_144.1).bind fun t153_161 =>
 (pr.store 1 false t151_159.2 t153_161 t152_160).bind fun u162 =>
 (pr.load 42 true u162.2 t24_144.1).bind fun t155_163 =>
 (pr.call g id_refrag_Cut6 u162.2 [t155_163, (LV.int .i64 1280), (LV.int .u32 7)]).bind fun t156_164 =>
 (pr.extract t156_164 0).bind fun t157_166 =>
 (pr.extract t156_164 1).bind fun t158_167 =>
 (pr.idxAddr none 42 t121_117 (LV.int .i64 0)).bind fun t160_171 =>
 (pr.fieldAddr 8 38 t160_171).bind fun t161_172 =>
 (pr.load 1 false u162.2 t161_172).bind fun t162_173 =>
 (pr.bin .eql t162_173 (LV.int .i64 0)).bind fun t163_174 =>
 (pr.guard t163_174 true).bind fun b176 =>
 (if b176 = true then some t121_117 else some LV.undef).bind fun t165_176 =>
 (pr.guard t163_174 true).bind fun b177 =>
 (if b177 = true then pr.idxAddr none 42 t165_176 (LV.int .i64 0) else some LV.undef).bind fun t166_177 =>
 (pr.guard t163_174 true).bind fun b178 =>
 (if b178 = true then pr.fieldAddr 11 41 t166_177 else some LV.undef).bind fun t167_178 =>
 (pr.guard t163_174 true).bind fun b179 =>
 (if b179 = true then pr.load 1 false u162.2 t167_178 else some LV.undef).bind fun t168_179 =>
 (pr.guard t163_174 true).bind fun b180 =>
 (if b180 = true then pr.len true t168_179 else some LV.undef).bind fun t169_180 =>
 (pr.guard t163_174 true).bind fun b181 =>
 (if b181 = true then pr.bin .eql t169_180 (LV.int .i64 1232) else some LV.undef).bind fun t170_181 =>
 (pr.pick t163_174 t170_181 (LV.bool false)).bind fun t171_182 =>
 (pr.guard t171_182 true).bind fun b184 =>
 (if b184 = true then some t121_117 else some LV.undef).bind fun t173_184 =>
 (pr.guard t171_182 true).bind fun b185 =>
 (if b185 = true then pr.idxAddr none 42 t173_184 (LV.int .i64 0) else some LV.undef).bind fun t174_185 =>
 (pr.guard t171_182 true).bind fun b186 =>
 (if b186 = true then pr.fieldAddr 9 39 t174_185 else some LV.undef).bind fun t175_186 =>
 (pr.guard t171_182 true).bind fun b187 =>
 (if b187 = true then pr.load 1 false u162.2 t175_186 else some LV.undef).bind fun t176_187 =>
 (pr.pick t171_182 t176_187 (LV.bool false)).bind fun t177_188 =>
 (pr.guard t177_188 true).bind fun b190 =>
 (if b190 = true then some t121_117 else some LV.undef).bind fun t179_190 =>
 (pr.guard t177_188 true).bind fun b191 =>
 (if b191 = true then pr.idxAddr none 42 t179_190 (LV.int .i64 0) else some LV.undef).bind fun t180_191 =>
 (pr.guard t177_188 true).bind fun b192 =>
 (if b192 = true then pr.fieldAddr 6 36 t180_191 else some LV.undef).bind fun t181_192 =>
 (pr.guard t177_188 true).bind fun b193 =>
 (if b193 = true then pr.load 1 false u162.2 t181_192 else some LV.undef).bind fun t182_193 =>
 (pr.pick t177_188 t182_193 (LV.bool false)).bind fun t183_194 =>
 (pr.guard t183_194 true).bind fun b196 =>
 (if b196 = true then some t121_117 else some LV.undef).bind fun t185_196 =>
 (pr.guard t183_194 true).bind fun b197 =>
 (if b197 = true then pr.idxAddr none 42 t185_196 (LV.int .i64 1) else some LV.undef).bind fun t186_197 =>
 (pr.guard t183_194 true).bind fun b198 =>
 (if b198 = true then pr.fieldAddr 8 38 t186_197 else some LV.undef).bind fun t187_198 =>
 (pr.guard t183_194 true).bind fun b199 =>
 (if b199 = true then pr.load 1 false u162.2 t187_198 else some LV.undef).bind fun t188_199 =>
 (pr.guard t183_194 true).bind fun b200 =>
 (if b200 = true then pr.bin .eql t188_199 (LV.int .i64 1232) else some LV.undef).bind fun t189_200 =>
 (pr.pick t183_194 t189_200 (LV.bool false)).bind fun t190_201 =>
 (pr.guard t190_201 true).bind fun b203 =>
 (if b203 = true then some t121_117 else some LV.undef).bind fun t192_203 =>
 (pr.guard t190_201 true).bind fun b204 =>
 (if b204 = true then pr.idxAddr none 42 t192_203 (LV.int .i64 1) else some LV.undef).bind fun t193_204 =>
 (pr.guard t190_201 true).bind fun b205 =>
 (if b205 = true then pr.fieldAddr 11 41 t193_204 else some LV.undef).bind fun t194_205 =>
 (pr.guard t190_201 true).bind fun b206 =>
 (if b206 = true then pr.load 1 false u162.2 t194_205 else some LV.undef).bind fun t195_206 =>
 (pr.guard t190_201 true).bind fun b207 =>
 (if b207 = true then pr.len true t195_206 else some LV.undef).bind fun t196_207 =>
 (pr.guard t190_201 true).bind fun b208 =>
 (if b208 = true then pr.bin .eql t196_207 (LV.int .i64 9) else some LV.undef).bind fun t197_208 =>
 (pr.pick t190_201 t197_208 (LV.bool false)).bind fun t198_209 =>
 (pr.guard t198_209 true).bind fun b211 =>
 (if b211 = true then some t121_117 else some LV.undef).bind fun t200_211 =>
 (pr.guard t198_209 true).bind fun b212 =>
 (if b212 = true then pr.idxAddr none 42 t200_211 (LV.int .i64 1) else some LV.undef).bind fun t201_212 =>
 (pr.guard t198_209 true).bind fun b213 =>
 (if b213 = true then pr.fieldAddr 9 39 t201_212 else some LV.undef).bind fun t202_213 =>
 (pr.guard t198_209 true).bind fun b214 =>
 (if b214 = true then pr.load 1 false u162.2 t202_213 else some LV.undef).bind fun t203_214 =>
 (pr.guard t198_209 true).bind fun b215 =>
 (if b215 = true then pr.un .not t203_214 else some LV.undef).bind fun t204_215 =>
 (pr.pick t198_209 t204_215 (LV.bool false)).bind fun t205_216 =>
 (pr.guard t205_216 true).bind fun b218 =>
 (if b218 = true then some t121_117 else some LV.undef).bind fun t207_218 =>
 (pr.guard t205_216 true).bind fun b219 =>
 (if b219 = true then pr.idxAddr none 42 t207_218 (LV.int .i64 1) else some LV.undef).bind fun t208_219 =>
 (pr.guard t205_216 true).bind fun b220 =>
 (if b220 = true then pr.fieldAddr 7 37 t208_219 else some LV.undef).bind fun t209_220 =>
 (pr.guard t205_216 true).bind fun b221 =>
 (if b221 = true then pr.load 1 false u162.2 t209_220 else some LV.undef).bind fun t210_221 =>
 (pr.guard t205_216 true).bind fun b222 =>
 (if b222 = true then pr.bin .eql t210_221 (LV.int .u32 7) else some LV.undef).bind fun t211_222 =>
 (pr.pick t205_216 t211_222 (LV.bool false)).bind fun t212_223 =>
 (pr.bin .eql t95_78 (LV.int .i64 3)).bind fun t214_226 =>
 (pr.guard t214_226 true).bind fun b228 =>
 (if b228 = true then some t100_85 else some LV.undef).bind fun t216_228 =>
 (pr.guard t214_226 true).bind fun b229 =>
 (if b229 = true then pr.bin .eql t216_228 (LV.int .i64 1) else some LV.undef).bind fun t217_229 =>
 (pr.pick t214_226 t217_229 (LV.bool false)).bind fun t218_230 =>
 (pr.guard t218_230 true).bind fun b232 =>
 (if b232 = true then some t105_92 else some LV.undef).bind fun t220_232 =>
 (pr.guard t218_230 true).bind fun b233 =>
 (if b233 = true then pr.bin .eql t220_232 (LV.int .i64 1) else some LV.undef).bind fun t221_233 =>
 (pr.pick t218_230 t221_233 (LV.bool false)).bind fun t222_234 =>
 (pr.guard t222_234 true).bind fun b236 =>
 (if b236 = true then some t110_99 else some LV.undef).bind fun t224_236 =>
 (pr.guard t222_234 true).bind fun b237 =>
 (if b237 = true then pr.bin .eql t224_236 (LV.int .i64 0) else some LV.undef).bind fun t225_237 =>
 (pr.pick t222_234 t225_237 (LV.bool false)).bind fun t226_238 =>
 (pr.guard t226_238 true).bind fun b240 =>
 (if b240 = true then some t109_98 else some LV.undef).bind fun t228_240 =>
 (pr.guard t226_238 true).bind fun b241 =>
 (if b241 = true then pr.len false t228_240 else some LV.undef).bind fun t229_241 =>
 (pr.guard t226_238 true).bind fun b242 =>
 (if b242 = true then pr.bin .eql t229_241 (LV.int .i64 1) else some LV.undef).bind fun t230_242 =>
 (pr.pick t226_238 t230_242 (LV.bool false)).bind fun t231_243 =>
 (pr.guard t231_243 true).bind fun b245 =>
 (if b245 = true then some t109_98 else some LV.undef).bind fun t233_245 =>
 (pr.guard t231_243 true).bind fun b246 =>
 (if b246 = true then pr.idxAddr none 17 t233_245 (LV.int .i64 0) else some LV.undef).bind fun t234_246 =>
 (pr.guard t231_243 true).bind fun b247 =>
 (if b247 = true then pr.load 17 true u162.2 t234_246 else some LV.undef).bind fun t235_247 =>
 (pr.guard t231_243 true).bind fun b248 =>
 (if b248 = true then pr.load 17 true u162.2 t6_70.1 else some LV.undef).bind fun t236_248 =>
 (pr.guard t231_243 true).bind fun b249 =>
 (if b249 = true then pr.eqS (Sh.agg [(Sh.int .i64), (Sh.int .i64), (Sh.int .i64), (Sh.int .i64), (Sh.int .i64), Sh.bool, Sh.bool, (Sh.bytes 4), (Sh.bytes 4), Sh.str, Sh.str]) false t235_247 t236_248 else some LV.undef).bind fun t237_249 =>
 (pr.pick t231_243 t237_249 (LV.bool false)).bind fun t238_250 =>
 (pr.guard t238_250 true).bind fun b252 =>
 (if b252 = true then some t117_111 else some LV.undef).bind fun t240_252 =>
 (pr.guard t238_250 true).bind fun b253 =>
 (if b253 = true then pr.bin .eql t240_252 (LV.int .i64 1) else some LV.undef).bind fun t241_253 =>
 (pr.pick t238_250 t241_253 (LV.bool false)).bind fun t242_254 =>
 (pr.guard t242_254 true).bind fun b256 =>
 (if b256 = true then some t212_223 else some LV.undef).bind fun t244_256 =>
 (pr.pick t242_254 t244_256 (LV.bool false)).bind fun t245_257 =>
 (pr.guard t245_257 true).bind fun b259 =>
 (if b259 = true then some t134_133 else some LV.undef).bind fun t247_259 =>
 (pr.guard t245_257 true).bind fun b260 =>
 (if b260 = true then pr.bin .eql t247_259 (LV.int .i64 0) else some LV.undef).bind fun t248_260 =>
 (pr.pick t245_257 t248_260 (LV.bool false)).bind fun t249_261 =>
 (pr.guard t249_261 true).bind fun b263 =>
 (if b263 = true then some t133_132 else some LV.undef).bind fun t251_263 =>
 (pr.guard t249_261 true).bind fun b264 =>
 (if b264 = true then pr.len false t251_263 else some LV.undef).bind fun t252_264 =>
 (pr.guard t249_261 true).bind fun b265 =>
 (if b265 = true then pr.bin .eql t252_264 (LV.int .i64 1) else some LV.undef).bind fun t253_265 =>
 (pr.pick t249_261 t253_265 (LV.bool false)).bind fun t254_266 =>
 (pr.guard t254_266 true).bind fun b268 =>
 (if b268 = true then some t133_132 else some LV.undef).bind fun t256_268 =>
 (pr.guard t254_266 true).bind fun b269 =>
 (if b269 = true then pr.idxAddr none 42 t256_268 (LV.int .i64 0) else some LV.undef).bind fun t257_269 =>
 (pr.guard t254_266 true).bind fun b270 =>
 (if b270 = true then pr.fieldAddr 6 36 t257_269 else some LV.undef).bind fun t258_270 =>
 (pr.guard t254_266 true).bind fun b271 =>
 (if b271 = true then pr.load 1 false u162.2 t258_270 else some LV.undef).bind fun t259_271 =>
 (pr.guard t254_266 true).bind fun b272 =>
 (if b272 = true then pr.un .not t259_271 else some LV.undef).bind fun t260_272 =>
 (pr.pick t254_266 t260_272 (LV.bool false)).bind fun t261_273 =>
 (pr.guard t261_273 true).bind fun b275 =>
 (if b275 = true then some t139_140 else some LV.undef).bind fun t263_275 =>
 (pr.guard t261_273 true).bind fun b276 =>
 (if b276 = true then pr.bin .eql t263_275 (LV.int .i64 1) else some LV.undef).bind fun t264_276 =>
 (pr.pick t261_273 t264_276 (LV.bool false)).bind fun t265_277 =>
 (pr.guard t265_277 true).bind fun b279 =>
 (if b279 = true then some t150_156 else some LV.undef).bind fun t267_279 =>
 (pr.guard t265_277 true).bind fun b280 =>
 (if b280 = true then pr.bin .eql t267_279 (LV.int .i64 0) else some LV.undef).bind fun t268_280 =>
 (pr.pick t265_277 t268_280 (LV.bool false)).bind fun t269_281 =>
 (pr.guard t269_281 true).bind fun b283 =>
 (if b283 = true then some t158_167 else some LV.undef).bind fun t271_283 =>
 (pr.guard t269_281 true).bind fun b284 =>
 (if b284 = true then pr.bin .eql t271_283 (LV.int .i64 13) else some LV.undef).bind fun t272_284 =>
 (pr.pick t269_281 t272_284 (LV.bool false)).bind fun t273_285 =>
 (pr.guard t273_285 true).bind fun b287 =>
 (if b287 = true then pr.call g id_interpreterlaw17_six u162.2 [(LV.int .i64 3)] else some LV.undef).bind fun t275_287 =>
 (pr.guard t273_285 true).bind fun b288 =>
 (if b288 = true then pr.call g id_refrag_Len6 u162.2 [t275_287] else some LV.undef).bind fun t276_288 =>
 (pr.guard t273_285 true).bind fun b289 =>
 (if b289 = true then pr.bin .eql t276_288 (LV.int .i64 43) else some LV.undef).bind fun t277_289 =>
 (pr.pick t273_285 t277_289 (LV.bool false)).bind fun t278_290 =>
 (pr.guard t278_290 true).bind fun b292 =>
 (if b292 = true then pr.load 17 true u162.2 t15_103.1 else some LV.undef).bind fun t280_292 =>
 (pr.guard t278_290 true).bind fun b293 =>
 (if b293 = true then pr.call g id_refrag_Len4 u162.2 [t280_292] else some LV.undef).bind fun t281_293 =>
 (pr.guard t278_290 true).bind fun b294 =>
 (if b294 = true then pr.bin .eql t281_293 (LV.int .i64 0) else some LV.undef).bind fun t282_294 =>
 (pr.pick t278_290 t282_294 (LV.bool false)).bind fun t283_295 =>
 (pr.guard t283_295 true).bind fun b297 =>
 (if b297 = true then pr.call g id_interpreterlaw17_wakes u162.2 [] else some LV.undef).bind fun t285_297 =>
 (pr.pick t283_295 t285_297 (LV.bool false)).bind fun t286_298 =>
 pr.fin none u162.2 [t286_298])) (exIf r21.1 .ret (
 pr.fin none r21.2.2 [(getL r21.2.1 0)]) (none)))
theorem F_interpreterlaw17_RefragKnown_eq (g : Call) : fnEv g c_interpreterlaw17_RefragKnown [] none = F_interpreterlaw17_RefragKnown g := by kernel_rfl

/-- interpreter/interpreterlaw17.Great4 -/
noncomputable def F_interpreterlaw17_Great4 (g : Call) (a0 : LV) : Option (LV × Option LV) :=
 (pr.box a0).bind fun t1_0 =>
 (pr.fieldAddr 10 16 t1_0).bind fun t3_2 =>
 (pr.load 1 false noSlots t3_2).bind fun t4_3 =>
 (pr.len true t4_3).bind fun t5_4 =>
 (pr.bin .gtr t5_4 (LV.int .i64 4000)).bind fun t6_5 =>
 (pr.guard t6_5 false).bind fun b7 =>
 (if b7 = true then pr.fieldAddr 9 15 t1_0 else some LV.undef).bind fun t8_7 =>
 (pr.guard t6_5 false).bind fun b8 =>
 (if b8 = true then pr.load 1 false noSlots t8_7 else some LV.undef).bind fun t9_8 =>
 (pr.guard t6_5 false).bind fun b9 =>
 (if b9 = true then pr.len true t9_8 else some LV.undef).bind fun t10_9 =>
 (pr.guard t6_5 false).bind fun b10 =>
 (if b10 = true then pr.bin .gtr t10_9 (LV.int .i64 100) else some LV.undef).bind fun t11_10 =>
 (pr.pick t6_5 (LV.bool true) t11_10).bind fun t12_11 =>
 pr.fin none noSlots [t12_11]
theorem F_interpreterlaw17_Great4_eq (g : Call) (a0 : LV) : fnEv g c_interpreterlaw17_Great4 [a0] none = F_interpreterlaw17_Great4 g a0 := by kernel_rfl

/-- interpreter/interpreterlaw17.wakes -/
noncomputable def F_interpreterlaw17_wakes (g : Call) : Option (LV × Option LV) :=
 (pr.call g id_interpreterlaw17_four noSlots [(LV.int .i64 100)]).bind fun t6_1 =>
 (pr.call g id_refrag_Cut4 noSlots [t6_1, (LV.int .i64 68)]).bind fun t7_2 =>
 (pr.extract t7_2 0).bind fun t8_4 =>
 (pr.extract t7_2 1).bind fun t9_5 =>
 (pr.call g id_interpreterlaw17_six noSlots [(LV.int .i64 1241)]).bind fun t11_8 =>
 (pr.call g id_refrag_Cut6 noSlots [t11_8, (LV.int .i64 1280), (LV.int .u32 7)]).bind fun t12_9 =>
 (pr.extract t12_9 0).bind fun t13_11 =>
 (pr.extract t12_9 1).bind fun t14_12 =>
 (pr.bin .eql t9_5 (LV.int .i64 0)).bind fun t16_16 =>
 (pr.guard t16_16 true).bind fun b18 =>
 (if b18 = true then some t8_4 else some LV.undef).bind fun t18_18 =>
 (pr.guard t16_16 true).bind fun b19 =>
 (if b19 = true then pr.len false t18_18 else some LV.undef).bind fun t19_19 =>
 (pr.guard t16_16 true).bind fun b20 =>
 (if b20 = true then pr.bin .eql t19_19 (LV.int .i64 3) else some LV.undef).bind fun t20_20 =>
 (pr.pick t16_16 t20_20 (LV.bool false)).bind fun t21_21 =>
 (pr.guard t21_21 true).bind fun b23 =>
 (if b23 = true then some t8_4 else some LV.undef).bind fun t23_23 =>
 (pr.guard t21_21 true).bind fun b24 =>
 (if b24 = true then pr.idxAddr none 17 t23_23 (LV.int .i64 1) else some LV.undef).bind fun t24_24 =>
 (pr.guard t21_21 true).bind fun b25 =>
 (if b25 = true then pr.fieldAddr 4 4 t24_24 else some LV.undef).bind fun t25_25 =>
 (pr.guard t21_21 true).bind fun b26 =>
 (if b26 = true then pr.load 1 false noSlots t25_25 else some LV.undef).bind fun t26_26 =>
 (pr.guard t21_21 true).bind fun b27 =>
 (if b27 = true then pr.bin .eql t26_26 (LV.int .i64 48) else some LV.undef).bind fun t27_27 =>
 (pr.pick t21_21 t27_27 (LV.bool false)).bind fun t28_28 =>
 (pr.guard t28_28 true).bind fun b30 =>
 (if b30 = true then some t8_4 else some LV.undef).bind fun t30_30 =>
 (pr.guard t28_28 true).bind fun b31 =>
 (if b31 = true then pr.idxAddr none 17 t30_30 (LV.int .i64 2) else some LV.undef).bind fun t31_31 =>
 (pr.guard t28_28 true).bind fun b32 =>
 (if b32 = true then pr.fieldAddr 10 16 t31_31 else some LV.undef).bind fun t32_32 =>
 (pr.guard t28_28 true).bind fun b33 =>
 (if b33 = true then pr.load 1 false noSlots t32_32 else some LV.undef).bind fun t33_33 =>
 (pr.guard t28_28 true).bind fun b34 =>
 (if b34 = true then pr.len true t33_33 else some LV.undef).bind fun t34_34 =>
 (pr.guard t28_28 true).bind fun b35 =>
 (if b35 = true then pr.bin .eql t34_34 (LV.int .i64 4) else some LV.undef).bind fun t35_35 =>
 (pr.pick t28_28 t35_35 (LV.bool false)).bind fun t36_36 =>
 (pr.guard t36_36 true).bind fun b38 =>
 (if b38 = true then some t8_4 else some LV.undef).bind fun t38_38 =>
 (pr.guard t36_36 true).bind fun b39 =>
 (if b39 = true then pr.idxAddr none 17 t38_38 (LV.int .i64 1) else some LV.undef).bind fun t39_39 =>
 (pr.guard t36_36 true).bind fun b40 =>
 (if b40 = true then pr.fieldAddr 6 6 t39_39 else some LV.undef).bind fun t40_40 =>
 (pr.guard t36_36 true).bind fun b41 =>
 (if b41 = true then pr.load 1 false noSlots t40_40 else some LV.undef).bind fun t41_41 =>
 (pr.pick t36_36 t41_41 (LV.bool false)).bind fun t42_42 =>
 (pr.guard t42_42 true).bind fun b44 =>
 (if b44 = true then some t8_4 else some LV.undef).bind fun t44_44 =>
 (pr.guard t42_42 true).bind fun b45 =>
 (if b45 = true then pr.idxAddr none 17 t44_44 (LV.int .i64 2) else some LV.undef).bind fun t45_45 =>
 (pr.guard t42_42 true).bind fun b46 =>
 (if b46 = true then pr.fieldAddr 6 6 t45_45 else some LV.undef).bind fun t46_46 =>
 (pr.guard t42_42 true).bind fun b47 =>
 (if b47 = true then pr.load 1 false noSlots t46_46 else some LV.undef).bind fun t47_47 =>
 (pr.guard t42_42 true).bind fun b48 =>
 (if b48 = true then pr.un .not t47_47 else some LV.undef).bind fun t48_48 =>
 (pr.pick t42_42 t48_48 (LV.bool false)).bind fun t49_49 =>
 (pr.guard t49_49 true).bind fun b51 =>
 (if b51 = true then some t14_12 else some LV.undef).bind fun t51_51 =>
 (pr.guard t49_49 true).bind fun b52 =>
 (if b52 = true then pr.bin .eql t51_51 (LV.int .i64 0) else some LV.undef).bind fun t52_52 =>
 (pr.pick t49_49 t52_52 (LV.bool false)).bind fun t53_53 =>
 (pr.guard t53_53 true).bind fun b55 =>
 (if b55 = true then some t13_11 else some LV.undef).bind fun t55_55 =>
 (pr.guard t53_53 true).bind fun b56 =>
 (if b56 = true then pr.len false t55_55 else some LV.undef).bind fun t56_56 =>
 (pr.guard t53_53 true).bind fun b57 =>
 (if b57 = true then pr.bin .eql t56_56 (LV.int .i64 2) else some LV.undef).bind fun t57_57 =>
 (pr.pick t53_53 t57_57 (LV.bool false)).bind fun t58_58 =>
 (pr.guard t58_58 true).bind fun b60 =>
 (if b60 = true then some t13_11 else some LV.undef).bind fun t60_60 =>
 (pr.guard t58_58 true).bind fun b61 =>
 (if b61 = true then pr.idxAddr none 42 t60_60 (LV.int .i64 1) else some LV.undef).bind fun t61_61 =>
 (pr.guard t58_58 true).bind fun b62 =>
 (if b62 = true then pr.fieldAddr 8 38 t61_61 else some LV.undef).bind fun t62_62 =>
 (pr.guard t58_58 true).bind fun b63 =>
 (if b63 = true then pr.load 1 false noSlots t62_62 else some LV.undef).bind fun t63_63 =>
 (pr.guard t58_58 true).bind fun b64 =>
 (if b64 = true then pr.bin .eql t63_63 (LV.int .i64 1232) else some LV.undef).bind fun t64_64 =>
 (pr.pick t58_58 t64_64 (LV.bool false)).bind fun t65_65 =>
 (pr.guard t65_65 true).bind fun b67 =>
 (if b67 = true then some t13_11 else some LV.undef).bind fun t67_67 =>
 (pr.guard t65_65 true).bind fun b68 =>
 (if b68 = true then pr.idxAddr none 42 t67_67 (LV.int .i64 1) else some LV.undef).bind fun t68_68 =>
 (pr.guard t65_65 true).bind fun b69 =>
 (if b69 = true then pr.fieldAddr 7 37 t68_68 else some LV.undef).bind fun t69_69 =>
 (pr.guard t65_65 true).bind fun b70 =>
 (if b70 = true then pr.load 1 false noSlots t69_69 else some LV.undef).bind fun t70_70 =>
 (pr.guard t65_65 true).bind fun b71 =>
 (if b71 = true then pr.bin .eql t70_70 (LV.int .u32 7) else some LV.undef).bind fun t71_71 =>
 (pr.pick t65_65 t71_71 (LV.bool false)).bind fun t72_72 =>
 (pr.guard t72_72 true).bind fun b74 =>
 (if b74 = true then pr.call g id_interpreterlaw17_four noSlots [(LV.int .i64 10)] else some LV.undef).bind fun t74_74 =>
 (pr.guard t72_72 true).bind fun b75 =>
 (if b75 = true then pr.call g id_refrag_Len4 noSlots [t74_74] else some LV.undef).bind fun t75_75 =>
 (pr.guard t72_72 true).bind fun b76 =>
 (if b76 = true then pr.bin .eql t75_75 (LV.int .i64 30) else some LV.undef).bind fun t76_76 =>
 (pr.pick t72_72 t76_76 (LV.bool false)).bind fun t77_77 =>
 pr.fin none noSlots [t77_77]
theorem F_interpreterlaw17_wakes_eq (g : Call) : fnEv g c_interpreterlaw17_wakes [] none = F_interpreterlaw17_wakes g := by kernel_rfl

/-- interpreter/refrag.Cut4 -/
noncomputable def F_refrag_Cut4 (g : Call) (a0 : LV) (a1 : LV) : Option (LV × Option LV) :=
 (pr.box a0).bind fun t2_0 =>
 (pr.load 17 true noSlots t2_0).bind fun t12_3 =>
 (pr.call g id_refrag_Len4 noSlots [t12_3]).bind fun t13_4 =>
 (pr.bin .eql t13_4 (LV.int .i64 0)).bind fun t16_7 =>
 (pr.guard t16_7 false).bind fun b9 =>
 (if b9 = true then some a1 else some LV.undef).bind fun t18_9 =>
 (pr.guard t16_7 false).bind fun b10 =>
 (if b10 = true then pr.bin .lss t18_9 (LV.int .i64 68) else some LV.undef).bind fun t19_10 =>
 (pr.pick t16_7 (LV.bool true) t19_10).bind fun t20_11 =>
 (pr.guard t20_11 false).bind fun b13 =>
 (if b13 = true then some a1 else some LV.undef).bind fun t22_13 =>
 (pr.guard t20_11 false).bind fun b14 =>
 (if b14 = true then pr.bin .gtr t22_13 (LV.int .i64 65535) else some LV.undef).bind fun t23_14 =>
 (pr.pick t20_11 (LV.bool true) t23_14).bind fun t24_15 =>
 condK t24_15 (
 pr.fin none noSlots [LV.nils, (LV.int .i64 1)]) (
 (pr.bin .leq t13_4 a1).bind fun t28_21 =>
 condK t28_21 (
 (pr.load 17 true noSlots t2_0).bind fun t29_23 =>
 (pr.bsl (LV.agg [(LV.int .i64 0), (LV.int .i64 0), (LV.int .i64 0), (LV.int .i64 0), (LV.int .i64 0), (LV.bool false), (LV.bool false), (LV.bytes [0, 0, 0, 0]), (LV.bytes [0, 0, 0, 0]), (LV.str []), (LV.str [])]) 1 [(0, t29_23)]).bind fun t30_24 =>
 pr.fin none noSlots [t30_24, (LV.int .i64 0)]) (
 (pr.fieldAddr 5 5 t2_0).bind fun t32_27 =>
 (pr.load 1 false noSlots t32_27).bind fun t33_28 =>
 condK t33_28 (
 pr.fin none noSlots [LV.nils, (LV.int .i64 3)]) (
 (pr.fieldAddr 10 16 t2_0).bind fun t36_34 =>
 (pr.load 1 false noSlots t36_34).bind fun t37_35 =>
 (pr.len true t37_35).bind fun t38_36 =>
 (pr.bin .sub t13_4 t38_36).bind fun t39_37 =>
 (pr.bin .sub a1 t39_37).bind fun t40_38 =>
 (pr.bin .quo t40_38 (LV.int .i64 8)).bind fun t41_39 =>
 (pr.bin .mul t41_39 (LV.int .i64 8)).bind fun t42_40 =>
 (pr.nilT 17 8 noSlots).bind fun t8_42 =>
 (pr.fieldAddr 10 16 t2_0).bind fun t43_43 =>
 (pr.load 1 false t8_42.2 t43_43).bind fun t44_44 =>
 (pr.len true t44_44).bind fun t45_45 =>
 (pr.call g id_refrag_pieces t8_42.2 [t45_45, t42_40]).bind fun t47_47 =>
 (pr.len false t47_47).bind fun t48_48 =>
 (whileW (fun q50 : List LV × Slots =>
 (pr.bin .lss (getL q50.1 1) t48_48).bind fun t50_51 =>
 condK t50_51 (
 (pr.idxAddr none 2 t47_47 (getL q50.1 1)).bind fun t51_52 =>
 (pr.load 2 true q50.2 t51_52).bind fun t52_53 =>
 (pr.alloc (LV.agg [(LV.int .i64 0), (LV.int .i64 0)]) 10 q50.2).bind fun t10_54 =>
 (pr.store 2 true t10_54.2 t10_54.1 t52_53).bind fun u55 =>
 (pr.load 17 true u55.2 t2_0).bind fun t53_56 =>
 (pr.alloc (LV.agg [(LV.int .i64 0), (LV.int .i64 0), (LV.int .i64 0), (LV.int .i64 0), (LV.int .i64 0), (LV.bool false), (LV.bool false), (LV.bytes [0, 0, 0, 0]), (LV.bytes [0, 0, 0, 0]), (LV.str []), (LV.str [])]) 11 u55.2).bind fun t11_57 =>
 (pr.store 17 true t11_57.2 t11_57.1 t53_56).bind fun u58 =>
 (pr.fieldAddr 4 4 t2_0).bind fun t54_59 =>
 (pr.load 1 false u58.2 t54_59).bind fun t55_60 =>
 (pr.fieldAddr 0 0 t10_54.1).bind fun t56_61 =>
 (pr.load 1 false u58.2 t56_61).bind fun t57_62 =>
 (pr.bin .add t55_60 t57_62).bind fun t58_63 =>
 (pr.fieldAddr 10 16 t2_0).bind fun t59_64 =>
 (pr.load 1 false u58.2 t59_64).bind fun t60_65 =>
 (pr.fieldAddr 0 0 t10_54.1).bind fun t61_66 =>
 (pr.load 1 false u58.2 t61_66).bind fun t62_67 =>
 (pr.fieldAddr 1 1 t10_54.1).bind fun t63_68 =>
 (pr.load 1 false u58.2 t63_68).bind fun t64_69 =>
 (pr.slc 0 t60_65 (some t62_67) (some t64_69)).bind fun t65_70 =>
 (pr.fieldAddr 6 6 t2_0).bind fun t66_71 =>
 (pr.load 1 false u58.2 t66_71).bind fun t67_72 =>
 (pr.guard t67_72 false).bind fun b74 =>
 (if b74 = true then pr.fieldAddr 1 1 t10_54.1 else some LV.undef).bind fun t69_74 =>
 (pr.guard t67_72 false).bind fun b75 =>
 (if b75 = true then pr.load 1 false u58.2 t69_74 else some LV.undef).bind fun t70_75 =>
 (pr.guard t67_72 false).bind fun b76 =>
 (if b76 = true then pr.fieldAddr 10 16 t2_0 else some LV.undef).bind fun t71_76 =>
 (pr.guard t67_72 false).bind fun b77 =>
 (if b77 = true then pr.load 1 false u58.2 t71_76 else some LV.undef).bind fun t72_77 =>
 (pr.guard t67_72 false).bind fun b78 =>
 (if b78 = true then pr.len true t72_77 else some LV.undef).bind fun t73_78 =>
 (pr.guard t67_72 false).bind fun b79 =>
 (if b79 = true then pr.bin .lss t70_75 t73_78 else some LV.undef).bind fun t74_79 =>
 (pr.pick t67_72 (LV.bool true) t74_79).bind fun t75_80 =>
 (pr.fieldAddr 4 4 t11_57.1).bind fun t76_81 =>
 (pr.store 1 false u58.2 t76_81 t58_63).bind fun u82 =>
 (pr.fieldAddr 10 16 t11_57.1).bind fun t77_83 =>
 (pr.store 1 false u82.2 t77_83 t65_70).bind fun u84 =>
 (pr.fieldAddr 6 6 t11_57.1).bind fun t78_85 =>
 (pr.store 1 false u84.2 t78_85 t75_80).bind fun u86 =>
 if noMeet t59_64 t76_81 = true then (if noMeet t61_66 t76_81 = true then (if noMeet t63_68 t76_81 = true then (if noMeet t69_74 t76_81 = true then (if noMeet t71_76 t76_81 = true then (if noMeet t69_74 t77_83 = true then (if noMeet t71_76 t77_83 = true then ((pr.load 17 true u86.2 t11_57.1).bind fun t80_88 =>
 (pr.bsl (LV.agg [(LV.int .i64 0), (LV.int .i64 0), (LV.int .i64 0), (LV.int .i64 0), (LV.int .i64 0), (LV.bool false), (LV.bool false), (LV.bytes [0, 0, 0, 0]), (LV.bytes [0, 0, 0, 0]), (LV.str []), (LV.str [])]) 1 [(0, t80_88)]).bind fun t81_89 =>
 (pr.append 17 88 82 u86.2 (getL q50.1 0) t81_89).bind fun t82_90 =>
 (pr.bin .add (getL q50.1 1) (LV.int .i64 1)).bind fun t83_92 =>
 pr.round t8_42.2 .normal [t82_90.1, t83_92] t82_90.2) else none) else none) else none) else none) else none) else none) else none) (
 pr.round t8_42.2 (.exit 1) [(getL q50.1 0), (getL q50.1 1)] q50.2)) ([t8_42.1, (LV.int .i64 0)], t8_42.2)).bind fun r50 =>
 exIf r50.1 (.exit 1) (
 pr.fin none r50.2.2 [(getL r50.2.1 0), (LV.int .i64 0)]) (none))))
theorem F_refrag_Cut4_eq (g : Call) (a0 : LV) (a1 : LV) : fnEv g c_refrag_Cut4 [a0, a1] none = F_refrag_Cut4 g a0 a1 := by kernel_rfl

/-- interpreter/ip4.Bytes -/
noncomputable def F_ip4_Bytes (g : Call) (a0 : LV) : Option (LV × Option LV) :=
 (pr.box a0).bind fun t1_0 =>
 (pr.load 17 true noSlots t1_0).bind fun t9_3 =>
 (pr.call g id_ip4_why noSlots [t9_3]).bind fun t10_4 =>
 (pr.bin .neq t10_4 (LV.int .i64 0)).bind fun t12_7 =>
 condK t12_7 (
 (pr.call g id_ip4_fault noSlots [t10_4]).bind fun t14_9 =>
 pr.fin none noSlots [(LV.str []), t14_9]) (
 (pr.fieldAddr 4 4 t1_0).bind fun t15_12 =>
 (pr.load 1 false noSlots t15_12).bind fun t16_13 =>
 (pr.bin .quo t16_13 (LV.int .i64 8)).bind fun t17_14 =>
 (pr.fieldAddr 5 5 t1_0).bind fun t18_16 =>
 (pr.load 1 false noSlots t18_16).bind fun t19_17 =>
 condK t19_17 (
 (pr.bin .or t17_14 (LV.int .i64 16384)).bind fun t21_19 =>
 (pr.fieldAddr 6 6 t1_0).bind fun t22_21 =>
 (pr.load 1 false noSlots t22_21).bind fun t23_22 =>
 condK t23_22 (
 (pr.bin .or t21_19 (LV.int .i64 8192)).bind fun t25_24 =>
 (pr.fieldAddr 9 15 t1_0).bind fun t26_26 =>
 (pr.load 1 false noSlots t26_26).bind fun t27_27 =>
 (pr.len true t27_27).bind fun t28_28 =>
 (pr.bin .add (LV.int .i64 20) t28_28).bind fun t29_29 =>
 (pr.bin .quo t29_29 (LV.int .i64 4)).bind fun t31_32 =>
 (pr.bin .add (LV.int .i64 64) t31_32).bind fun t32_33 =>
 (pr.call g id_ip4_big noSlots [t32_33, (LV.int .i64 1)]).bind fun t33_34 =>
 (pr.fieldAddr 0 0 t1_0).bind fun t34_35 =>
 (pr.load 1 false noSlots t34_35).bind fun t35_36 =>
 (pr.call g id_ip4_big noSlots [t35_36, (LV.int .i64 1)]).bind fun t36_37 =>
 (pr.bin .add t33_34 t36_37).bind fun t37_38 =>
 (pr.fieldAddr 10 16 t1_0).bind fun t39_40 =>
 (pr.load 1 false noSlots t39_40).bind fun t40_41 =>
 (pr.len true t40_41).bind fun t41_42 =>
 (pr.bin .add t29_29 t41_42).bind fun t42_43 =>
 (pr.call g id_ip4_big noSlots [t42_43, (LV.int .i64 2)]).bind fun t43_44 =>
 (pr.bin .add t37_38 t43_44).bind fun t44_45 =>
 (pr.fieldAddr 1 1 t1_0).bind fun t45_46 =>
 (pr.load 1 false noSlots t45_46).bind fun t46_47 =>
 (pr.call g id_ip4_big noSlots [t46_47, (LV.int .i64 2)]).bind fun t47_48 =>
 (pr.bin .add t44_45 t47_48).bind fun t48_49 =>
 (pr.call g id_ip4_big noSlots [t25_24, (LV.int .i64 2)]).bind fun t50_51 =>
 (pr.bin .add t48_49 t50_51).bind fun t51_52 =>
 (pr.fieldAddr 2 2 t1_0).bind fun t52_53 =>
 (pr.load 1 false noSlots t52_53).bind fun t53_54 =>
 (pr.call g id_ip4_big noSlots [t53_54, (LV.int .i64 1)]).bind fun t54_55 =>
 (pr.bin .add t51_52 t54_55).bind fun t55_56 =>
 (pr.fieldAddr 3 3 t1_0).bind fun t56_57 =>
 (pr.load 1 false noSlots t56_57).bind fun t57_58 =>
 (pr.call g id_ip4_big noSlots [t57_58, (LV.int .i64 1)]).bind fun t58_59 =>
 (pr.bin .add t55_56 t58_59).bind fun t59_60 =>
 (pr.fieldAddr 7 7 t1_0).bind fun t60_62 =>
 (pr.slcArr 4 noSlots t60_62 none none).bind fun t61_63 =>
 (pr.b2s noSlots t61_63).bind fun t62_64 =>
 (pr.fieldAddr 8 11 t1_0).bind fun t63_65 =>
 (pr.slcArr 4 noSlots t63_65 none none).bind fun t64_66 =>
 (pr.b2s noSlots t64_66).bind fun t65_67 =>
 (pr.bin .add t62_64 t65_67).bind fun t66_68 =>
 (pr.fieldAddr 9 15 t1_0).bind fun t67_69 =>
 (pr.load 1 false noSlots t67_69).bind fun t68_70 =>
 (pr.bin .add t66_68 t68_70).bind fun t69_71 =>
 (pr.bsl (LV.str []) 2 [(0, t59_60), (1, t69_71)]).bind fun t73_76 =>
 (pr.call g id_sum_Of noSlots [t73_76]).bind fun t74_77 =>
 (pr.call g id_ip4_big noSlots [t74_77, (LV.int .i64 2)]).bind fun t75_78 =>
 (pr.bin .add t59_60 t75_78).bind fun t76_79 =>
 (pr.bin .add t76_79 t69_71).bind fun t78_81 =>
 (pr.fieldAddr 10 16 t1_0).bind fun t79_82 =>
 (pr.load 1 false noSlots t79_82).bind fun t80_83 =>
 (pr.bin .add t78_81 t80_83).bind fun t81_84 =>
 pr.fin none noSlots [t81_84, LV.nili]) (
 (pr.fieldAddr 9 15 t1_0).bind fun t26_87 =>
 (pr.load 1 false noSlots t26_87).bind fun t27_88 =>
 (pr.len true t27_88).bind fun t28_89 =>
 (pr.bin .add (LV.int .i64 20) t28_89).bind fun t29_90 =>
 (pr.bin .quo t29_90 (LV.int .i64 4)).bind fun t31_93 =>
 (pr.bin .add (LV.int .i64 64) t31_93).bind fun t32_94 =>
 (pr.call g id_ip4_big noSlots [t32_94, (LV.int .i64 1)]).bind fun t33_95 =>
 (pr.fieldAddr 0 0 t1_0).bind fun t34_96 =>
 (pr.load 1 false noSlots t34_96).bind fun t35_97 =>
 (pr.call g id_ip4_big noSlots [t35_97, (LV.int .i64 1)]).bind fun t36_98 =>
 (pr.bin .add t33_95 t36_98).bind fun t37_99 =>
 (pr.fieldAddr 10 16 t1_0).bind fun t39_101 =>
 (pr.load 1 false noSlots t39_101).bind fun t40_102 =>
 (pr.len true t40_102).bind fun t41_103 =>
 (pr.bin .add t29_90 t41_103).bind fun t42_104 =>
 (pr.call g id_ip4_big noSlots [t42_104, (LV.int .i64 2)]).bind fun t43_105 =>
 (pr.bin .add t37_99 t43_105).bind fun t44_106 =>
 (pr.fieldAddr 1 1 t1_0).bind fun t45_107 =>
 (pr.load 1 false noSlots t45_107).bind fun t46_108 =>
 (pr.call g id_ip4_big noSlots [t46_108, (LV.int .i64 2)]).bind fun t47_109 =>
 (pr.bin .add t44_106 t47_109).bind fun t48_110 =>
 (pr.call g id_ip4_big noSlots [t21_19, (LV.int .i64 2)]).bind fun t50_112 =>
 (pr.bin .add t48_110 t50_112).bind fun t51_113 =>
 (pr.fieldAddr 2 2 t1_0).bind fun t52_114 =>
 (pr.load 1 false noSlots t52_114).bind fun t53_115 =>
 (pr.call g id_ip4_big noSlots [t53_115, (LV.int .i64 1)]).bind fun t54_116 =>
 (pr.bin .add t51_113 t54_116).bind fun t55_117 =>
 (pr.fieldAddr 3 3 t1_0).bind fun t56_118 =>
 (pr.load 1 false noSlots t56_118).bind fun t57_119 =>
 (pr.call g id_ip4_big noSlots [t57_119, (LV.int .i64 1)]).bind fun t58_120 =>
 (pr.bin .add t55_117 t58_120).bind fun t59_121 =>
 (pr.fieldAddr 7 7 t1_0).bind fun t60_123 =>
 (pr.slcArr 4 noSlots t60_123 none none).bind fun t61_124 =>
 (pr.b2s noSlots t61_124).bind fun t62_125 =>
 (pr.fieldAddr 8 11 t1_0).bind fun t63_126 =>
 (pr.slcArr 4 noSlots t63_126 none none).bind fun t64_127 =>
 (pr.b2s noSlots t64_127).bind fun t65_128 =>
 (pr.bin .add t62_125 t65_128).bind fun t66_129 =>
 (pr.fieldAddr 9 15 t1_0).bind fun t67_130 =>
 (pr.load 1 false noSlots t67_130).bind fun t68_131 =>
 (pr.bin .add t66_129 t68_131).bind fun t69_132 =>
 (pr.bsl (LV.str []) 2 [(0, t59_121), (1, t69_132)]).bind fun t73_137 =>
 (pr.call g id_sum_Of noSlots [t73_137]).bind fun t74_138 =>
 (pr.call g id_ip4_big noSlots [t74_138, (LV.int .i64 2)]).bind fun t75_139 =>
 (pr.bin .add t59_121 t75_139).bind fun t76_140 =>
 (pr.bin .add t76_140 t69_132).bind fun t78_142 =>
 (pr.fieldAddr 10 16 t1_0).bind fun t79_143 =>
 (pr.load 1 false noSlots t79_143).bind fun t80_144 =>
 (pr.bin .add t78_142 t80_144).bind fun t81_145 =>
 pr.fin none noSlots [t81_145, LV.nili])) (
 (pr.fieldAddr 6 6 t1_0).bind fun t22_148 =>
 (pr.load 1 false noSlots t22_148).bind fun t23_149 =>
 condK t23_149 (
 (pr.bin .or t17_14 (LV.int .i64 8192)).bind fun t25_151 =>
 (pr.fieldAddr 9 15 t1_0).bind fun t26_153 =>
 (pr.load 1 false noSlots t26_153).bind fun t27_154 =>
 (pr.len true t27_154).bind fun t28_155 =>
 (pr.bin .add (LV.int .i64 20) t28_155).bind fun t29_156 =>
 (pr.bin .quo t29_156 (LV.int .i64 4)).bind fun t31_159 =>
 (pr.bin .add (LV.int .i64 64) t31_159).bind fun t32_160 =>
 (pr.call g id_ip4_big noSlots [t32_160, (LV.int .i64 1)]).bind fun t33_161 =>
 (pr.fieldAddr 0 0 t1_0).bind fun t34_162 =>
 (pr.load 1 false noSlots t34_162).bind fun t35_163 =>
 (pr.call g id_ip4_big noSlots [t35_163, (LV.int .i64 1)]).bind fun t36_164 =>
 (pr.bin .add t33_161 t36_164).bind fun t37_165 =>
 (pr.fieldAddr 10 16 t1_0).bind fun t39_167 =>
 (pr.load 1 false noSlots t39_167).bind fun t40_168 =>
 (pr.len true t40_168).bind fun t41_169 =>
 (pr.bin .add t29_156 t41_169).bind fun t42_170 =>
 (pr.call g id_ip4_big noSlots [t42_170, (LV.int .i64 2)]).bind fun t43_171 =>
 (pr.bin .add t37_165 t43_171).bind fun t44_172 =>
 (pr.fieldAddr 1 1 t1_0).bind fun t45_173 =>
 (pr.load 1 false noSlots t45_173).bind fun t46_174 =>
 (pr.call g id_ip4_big noSlots [t46_174, (LV.int .i64 2)]).bind fun t47_175 =>
 (pr.bin .add t44_172 t47_175).bind fun t48_176 =>
 (pr.call g id_ip4_big noSlots [t25_151, (LV.int .i64 2)]).bind fun t50_178 =>
 (pr.bin .add t48_176 t50_178).bind fun t51_179 =>
 (pr.fieldAddr 2 2 t1_0).bind fun t52_180 =>
 (pr.load 1 false noSlots t52_180).bind fun t53_181 =>
 (pr.call g id_ip4_big noSlots [t53_181, (LV.int .i64 1)]).bind fun t54_182 =>
 (pr.bin .add t51_179 t54_182).bind fun t55_183 =>
 (pr.fieldAddr 3 3 t1_0).bind fun t56_184 =>
 (pr.load 1 false noSlots t56_184).bind fun t57_185 =>
 (pr.call g id_ip4_big noSlots [t57_185, (LV.int .i64 1)]).bind fun t58_186 =>
 (pr.bin .add t55_183 t58_186).bind fun t59_187 =>
 (pr.fieldAddr 7 7 t1_0).bind fun t60_189 =>
 (pr.slcArr 4 noSlots t60_189 none none).bind fun t61_190 =>
 (pr.b2s noSlots t61_190).bind fun t62_191 =>
 (pr.fieldAddr 8 11 t1_0).bind fun t63_192 =>
 (pr.slcArr 4 noSlots t63_192 none none).bind fun t64_193 =>
 (pr.b2s noSlots t64_193).bind fun t65_194 =>
 (pr.bin .add t62_191 t65_194).bind fun t66_195 =>
 (pr.fieldAddr 9 15 t1_0).bind fun t67_196 =>
 (pr.load 1 false noSlots t67_196).bind fun t68_197 =>
 (pr.bin .add t66_195 t68_197).bind fun t69_198 =>
 (pr.bsl (LV.str []) 2 [(0, t59_187), (1, t69_198)]).bind fun t73_203 =>
 (pr.call g id_sum_Of noSlots [t73_203]).bind fun t74_204 =>
 (pr.call g id_ip4_big noSlots [t74_204, (LV.int .i64 2)]).bind fun t75_205 =>
 (pr.bin .add t59_187 t75_205).bind fun t76_206 =>
 (pr.bin .add t76_206 t69_198).bind fun t78_208 =>
 (pr.fieldAddr 10 16 t1_0).bind fun t79_209 =>
 (pr.load 1 false noSlots t79_209).bind fun t80_210 =>
 (pr.bin .add t78_208 t80_210).bind fun t81_211 =>
 pr.fin none noSlots [t81_211, LV.nili]) (
 (pr.fieldAddr 9 15 t1_0).bind fun t26_214 =>
 (pr.load 1 false noSlots t26_214).bind fun t27_215 =>
 (pr.len true t27_215).bind fun t28_216 =>
 (pr.bin .add (LV.int .i64 20) t28_216).bind fun t29_217 =>
 (pr.bin .quo t29_217 (LV.int .i64 4)).bind fun t31_220 =>
 (pr.bin .add (LV.int .i64 64) t31_220).bind fun t32_221 =>
 (pr.call g id_ip4_big noSlots [t32_221, (LV.int .i64 1)]).bind fun t33_222 =>
 (pr.fieldAddr 0 0 t1_0).bind fun t34_223 =>
 (pr.load 1 false noSlots t34_223).bind fun t35_224 =>
 (pr.call g id_ip4_big noSlots [t35_224, (LV.int .i64 1)]).bind fun t36_225 =>
 (pr.bin .add t33_222 t36_225).bind fun t37_226 =>
 (pr.fieldAddr 10 16 t1_0).bind fun t39_228 =>
 (pr.load 1 false noSlots t39_228).bind fun t40_229 =>
 (pr.len true t40_229).bind fun t41_230 =>
 (pr.bin .add t29_217 t41_230).bind fun t42_231 =>
 (pr.call g id_ip4_big noSlots [t42_231, (LV.int .i64 2)]).bind fun t43_232 =>
 (pr.bin .add t37_226 t43_232).bind fun t44_233 =>
 (pr.fieldAddr 1 1 t1_0).bind fun t45_234 =>
 (pr.load 1 false noSlots t45_234).bind fun t46_235 =>
 (pr.call g id_ip4_big noSlots [t46_235, (LV.int .i64 2)]).bind fun t47_236 =>
 (pr.bin .add t44_233 t47_236).bind fun t48_237 =>
 (pr.call g id_ip4_big noSlots [t17_14, (LV.int .i64 2)]).bind fun t50_239 =>
 (pr.bin .add t48_237 t50_239).bind fun t51_240 =>
 (pr.fieldAddr 2 2 t1_0).bind fun t52_241 =>
 (pr.load 1 false noSlots t52_241).bind fun t53_242 =>
 (pr.call g id_ip4_big noSlots [t53_242, (LV.int .i64 1)]).bind fun t54_243 =>
 (pr.bin .add t51_240 t54_243).bind fun t55_244 =>
 (pr.fieldAddr 3 3 t1_0).bind fun t56_245 =>
 (pr.load 1 false noSlots t56_245).bind fun t57_246 =>
 (pr.call g id_ip4_big noSlots [t57_246, (LV.int .i64 1)]).bind fun t58_247 =>
 (pr.bin .add t55_244 t58_247).bind fun t59_248 =>
 (pr.fieldAddr 7 7 t1_0).bind fun t60_250 =>
 (pr.slcArr 4 noSlots t60_250 none none).bind fun t61_251 =>
 (pr.b2s noSlots t61_251).bind fun t62_252 =>
 (pr.fieldAddr 8 11 t1_0).bind fun t63_253 =>
 (pr.slcArr 4 noSlots t63_253 none none).bind fun t64_254 =>
 (pr.b2s noSlots t64_254).bind fun t65_255 =>
 (pr.bin .add t62_252 t65_255).bind fun t66_256 =>
 (pr.fieldAddr 9 15 t1_0).bind fun t67_257 =>
 (pr.load 1 false noSlots t67_257).bind fun t68_258 =>
 (pr.bin .add t66_256 t68_258).bind fun t69_259 =>
 (pr.bsl (LV.str []) 2 [(0, t59_248), (1, t69_259)]).bind fun t73_264 =>
 (pr.call g id_sum_Of noSlots [t73_264]).bind fun t74_265 =>
 (pr.call g id_ip4_big noSlots [t74_265, (LV.int .i64 2)]).bind fun t75_266 =>
 (pr.bin .add t59_248 t75_266).bind fun t76_267 =>
 (pr.bin .add t76_267 t69_259).bind fun t78_269 =>
 (pr.fieldAddr 10 16 t1_0).bind fun t79_270 =>
 (pr.load 1 false noSlots t79_270).bind fun t80_271 =>
 (pr.bin .add t78_269 t80_271).bind fun t81_272 =>
 pr.fin none noSlots [t81_272, LV.nili])))
theorem F_ip4_Bytes_eq (g : Call) (a0 : LV) : fnEv g c_ip4_Bytes [a0] none = F_ip4_Bytes g a0 := by kernel_rfl

/-- interpreter/refrag.Len4 -/
noncomputable def F_refrag_Len4 (g : Call) (a0 : LV) : Option (LV × Option LV) :=
 (pr.box a0).bind fun t1_0 =>
 (pr.load 17 true noSlots t1_0).bind fun t6_2 =>
 (pr.call g id_ip4_Bytes noSlots [t6_2]).bind fun t7_3 =>
 (pr.extract t7_3 0).bind fun t8_5 =>
 (pr.extract t7_3 1).bind fun t9_6 =>
 (pr.eqNil 1 true t9_6).bind fun t11_10 =>
 condK t11_10 (
 pr.fin none noSlots [(LV.int .i64 0)]) (
 (pr.len true t8_5).bind fun t13_13 =>
 pr.fin none noSlots [t13_13])
theorem F_refrag_Len4_eq (g : Call) (a0 : LV) : fnEv g c_refrag_Len4 [a0] none = F_refrag_Len4 g a0 := by kernel_rfl

/-- interpreter/interpreterref17.Cut4 -/
noncomputable def F_interpreterref17_Cut4 (g : Call) (a0 : LV) (a1 : LV) : Option (LV × Option LV) :=
 (pr.box a0).bind fun t2_0 =>
 (pr.bin .lss a1 (LV.int .i64 68)).bind fun t11_4 =>
 (pr.guard t11_4 false).bind fun b6 =>
 (if b6 = true then some a1 else some LV.undef).bind fun t13_6 =>
 (pr.guard t11_4 false).bind fun b7 =>
 (if b7 = true then pr.bin .gtr t13_6 (LV.int .i64 65535) else some LV.undef).bind fun t14_7 =>
 (pr.pick t11_4 (LV.bool true) t14_7).bind fun t15_8 =>
 condK t15_8 (
 pr.fin none noSlots [LV.nils, (LV.int .i64 1)]) (
 (pr.load 17 true noSlots t2_0).bind fun t16_11 =>
 (pr.call g id_interpreterref17_Head4 noSlots [t16_11]).bind fun t17_12 =>
 (pr.fieldAddr 10 16 t2_0).bind fun t18_13 =>
 (pr.load 1 false noSlots t18_13).bind fun t19_14 =>
 (pr.len true t19_14).bind fun t20_15 =>
 (pr.bin .add t17_12 t20_15).bind fun t21_16 =>
 (pr.bin .leq t21_16 a1).bind fun t23_18 =>
 condK t23_18 (
 (pr.load 17 true noSlots t2_0).bind fun t24_19 =>
 (pr.bsl (LV.agg [(LV.int .i64 0), (LV.int .i64 0), (LV.int .i64 0), (LV.int .i64 0), (LV.int .i64 0), (LV.bool false), (LV.bool false), (LV.bytes [0, 0, 0, 0]), (LV.bytes [0, 0, 0, 0]), (LV.str []), (LV.str [])]) 1 [(0, t24_19)]).bind fun t25_20 =>
 pr.fin none noSlots [t25_20, (LV.int .i64 0)]) (
 (pr.fieldAddr 5 5 t2_0).bind fun t26_23 =>
 (pr.load 1 false noSlots t26_23).bind fun t27_24 =>
 condK t27_24 (
 pr.fin none noSlots [LV.nils, (LV.int .i64 3)]) (
 (pr.load 17 true noSlots t2_0).bind fun t29_28 =>
 (pr.call g id_interpreterref17_Head4 noSlots [t29_28]).bind fun t30_29 =>
 (pr.call g id_interpreterref17_Room noSlots [a1, t30_29]).bind fun t31_30 =>
 (pr.nilT 17 7 noSlots).bind fun t7_32 =>
 (pr.load 17 true t7_32.2 t2_0).bind fun t32_33 =>
 (pr.alloc (LV.agg [(LV.int .i64 0), (LV.int .i64 0), (LV.int .i64 0), (LV.int .i64 0), (LV.int .i64 0), (LV.bool false), (LV.bool false), (LV.bytes [0, 0, 0, 0]), (LV.bytes [0, 0, 0, 0]), (LV.str []), (LV.str [])]) 8 t7_32.2).bind fun t8_34 =>
 (pr.store 17 true t8_34.2 t8_34.1 t32_33).bind fun u35 =>
 (whileW (fun q36 : List LV × Slots =>
 (pr.fieldAddr 10 16 t8_34.1).bind fun t33_37 =>
 (pr.load 1 false q36.2 t33_37).bind fun t34_38 =>
 (pr.len true t34_38).bind fun t35_39 =>
 (pr.bin .gtr t35_39 t31_30).bind fun t37_41 =>
 condK t37_41 (
 (pr.load 17 true q36.2 t8_34.1).bind fun t38_42 =>
 (pr.alloc (LV.agg [(LV.int .i64 0), (LV.int .i64 0), (LV.int .i64 0), (LV.int .i64 0), (LV.int .i64 0), (LV.bool false), (LV.bool false), (LV.bytes [0, 0, 0, 0]), (LV.bytes [0, 0, 0, 0]), (LV.str []), (LV.str [])]) 9 q36.2).bind fun t9_43 =>
 (pr.store 17 true t9_43.2 t9_43.1 t38_42).bind fun u44 =>
 (pr.fieldAddr 10 16 t8_34.1).bind fun t39_45 =>
 (pr.load 1 false u44.2 t39_45).bind fun t40_46 =>
 (pr.slc 0 t40_46 none (some t31_30)).bind fun t42_48 =>
 (pr.fieldAddr 10 16 t9_43.1).bind fun t43_49 =>
 (pr.store 1 false u44.2 t43_49 t42_48).bind fun u50 =>
 (pr.fieldAddr 6 6 t9_43.1).bind fun t44_51 =>
 (pr.store 1 false u50.2 t44_51 (LV.bool true)).bind fun u52 =>
 (pr.load 17 true u52.2 t9_43.1).bind fun t46_54 =>
 (pr.bsl (LV.agg [(LV.int .i64 0), (LV.int .i64 0), (LV.int .i64 0), (LV.int .i64 0), (LV.int .i64 0), (LV.bool false), (LV.bool false), (LV.bytes [0, 0, 0, 0]), (LV.bytes [0, 0, 0, 0]), (LV.str []), (LV.str [])]) 1 [(0, t46_54)]).bind fun t47_55 =>
 (pr.append 17 88 48 u52.2 (getL q36.1 0) t47_55).bind fun t48_56 =>
 (pr.fieldAddr 4 4 t8_34.1).bind fun t49_58 =>
 (pr.load 1 false t48_56.2 t49_58).bind fun t50_59 =>
 (pr.bin .add t50_59 t31_30).bind fun t52_61 =>
 (pr.fieldAddr 4 4 t8_34.1).bind fun t53_62 =>
 (pr.store 1 false t48_56.2 t53_62 t52_61).bind fun u63 =>
 (pr.fieldAddr 10 16 t8_34.1).bind fun t54_64 =>
 (pr.load 1 false u63.2 t54_64).bind fun t55_65 =>
 (pr.slc 0 t55_65 (some t31_30) none).bind fun t57_67 =>
 (pr.fieldAddr 10 16 t8_34.1).bind fun t58_68 =>
 (pr.store 1 false u63.2 t58_68 t57_67).bind fun u69 =>
 pr.round u35.2 .normal [t48_56.1] u69.2) (
 pr.round u35.2 (.exit 0) [(getL q36.1 0)] q36.2)) ([t7_32.1], u35.2)).bind fun r36 =>
 exIf r36.1 (.exit 0) (
 (pr.load 17 true r36.2.2 t8_34.1).bind fun t60_71 =>
 (pr.bsl (LV.agg [(LV.int .i64 0), (LV.int .i64 0), (LV.int .i64 0), (LV.int .i64 0), (LV.int .i64 0), (LV.bool false), (LV.bool false), (LV.bytes [0, 0, 0, 0]), (LV.bytes [0, 0, 0, 0]), (LV.str []), (LV.str [])]) 1 [(0, t60_71)]).bind fun t61_72 =>
 (pr.append 17 88 62 r36.2.2 (getL r36.2.1 0) t61_72).bind fun t62_73 =>
 pr.fin none t62_73.2 [t62_73.1, (LV.int .i64 0)]) (none))))
theorem F_interpreterref17_Cut4_eq (g : Call) (a0 : LV) (a1 : LV) : fnEv g c_interpreterref17_Cut4 [a0, a1] none = F_interpreterref17_Cut4 g a0 a1 := by kernel_rfl

/-- interpreter/interpreterref17.Head4 -/
noncomputable def F_interpreterref17_Head4 (g : Call) (a0 : LV) : Option (LV × Option LV) :=
 (pr.box a0).bind fun t1_0 =>
 (pr.fieldAddr 9 15 t1_0).bind fun t3_2 =>
 (pr.load 1 false noSlots t3_2).bind fun t4_3 =>
 (pr.len true t4_3).bind fun t5_4 =>
 (pr.bin .add (LV.int .i64 20) t5_4).bind fun t6_5 =>
 pr.fin none noSlots [t6_5]
theorem F_interpreterref17_Head4_eq (g : Call) (a0 : LV) : fnEv g c_interpreterref17_Head4 [a0] none = F_interpreterref17_Head4 g a0 := by kernel_rfl

/-- interpreter/interpreterlaw17.Great6 -/
noncomputable def F_interpreterlaw17_Great6 (g : Call) (a0 : LV) : Option (LV × Option LV) :=
 (pr.box a0).bind fun t1_0 =>
 (pr.fieldAddr 5 35 t1_0).bind fun t4_2 =>
 (pr.load 1 false noSlots t4_2).bind fun t5_3 =>
 (pr.len false t5_3).bind fun t6_4 =>
 (pr.bin .gtr t6_4 (LV.int .i64 20)).bind fun t7_5 =>
 (pr.guard t7_5 false).bind fun b7 =>
 (if b7 = true then pr.fieldAddr 11 41 t1_0 else some LV.undef).bind fun t9_7 =>
 (pr.guard t7_5 false).bind fun b8 =>
 (if b8 = true then pr.load 1 false noSlots t9_7 else some LV.undef).bind fun t10_8 =>
 (pr.guard t7_5 false).bind fun b9 =>
 (if b9 = true then pr.len true t10_8 else some LV.undef).bind fun t11_9 =>
 (pr.guard t7_5 false).bind fun b10 =>
 (if b10 = true then pr.bin .gtr t11_9 (LV.int .i64 4000) else some LV.undef).bind fun t12_10 =>
 (pr.pick t7_5 (LV.bool true) t12_10).bind fun t13_11 =>
 condK t13_11 (
 pr.fin none noSlots [(LV.bool true)]) (
 (whileW (fun q14 : List LV × Slots =>
 (pr.fieldAddr 5 35 t1_0).bind fun t15_16 =>
 (pr.load 1 false q14.2 t15_16).bind fun t16_17 =>
 (pr.len false t16_17).bind fun t17_18 =>
 (pr.bin .lss (getL q14.1 1) t17_18).bind fun t18_19 =>
 condK t18_19 (
 (pr.fieldAddr 5 35 t1_0).bind fun t21_20 =>
 (pr.load 1 false q14.2 t21_20).bind fun t22_21 =>
 (pr.idxAddr none 2 t22_21 (getL q14.1 1)).bind fun t24_23 =>
 (pr.fieldAddr 1 1 t24_23).bind fun t25_24 =>
 (pr.load 1 false q14.2 t25_24).bind fun t26_25 =>
 (pr.len true t26_25).bind fun t27_26 =>
 (pr.bin .gtr t27_26 (LV.int .i64 2100)).bind fun t28_27 =>
 condK t28_27 (
 pr.round noSlots .ret [(LV.bool true), (getL q14.1 1)] q14.2) (
 (pr.bin .add (getL q14.1 1) (LV.int .i64 1)).bind fun t20_30 =>
 pr.round noSlots .normal [(getL q14.1 0), t20_30] q14.2)) (
 pr.round noSlots (.exit 0) [(getL q14.1 0), (getL q14.1 1)] q14.2)) ([(LV.bool false), (LV.int .i64 0)], noSlots)).bind fun r14 =>
 exIf r14.1 (.exit 0) (
 pr.fin none r14.2.2 [(LV.bool false)]) (exIf r14.1 .ret (
 pr.fin none r14.2.2 [(getL r14.2.1 0)]) (none)))
theorem F_interpreterlaw17_Great6_eq (g : Call) (a0 : LV) : fnEv g c_interpreterlaw17_Great6 [a0] none = F_interpreterlaw17_Great6 g a0 := by kernel_rfl

/-- interpreter/refrag.Cut6 -/
noncomputable def F_refrag_Cut6 (g : Call) (a0 : LV) (a1 : LV) (a2 : LV) : Option (LV × Option LV) :=
 (pr.boxM a0 3 noSlots).bind fun t3_0 =>
 (pr.load 42 true t3_0.2 t3_0.1).bind fun t15_3 =>
 (pr.call g id_refrag_Len6 t3_0.2 [t15_3]).bind fun t16_4 =>
 (pr.bin .eql t16_4 (LV.int .i64 0)).bind fun t19_7 =>
 (pr.guard t19_7 false).bind fun b9 =>
 (if b9 = true then some a1 else some LV.undef).bind fun t21_9 =>
 (pr.guard t19_7 false).bind fun b10 =>
 (if b10 = true then pr.bin .lss t21_9 (LV.int .i64 1280) else some LV.undef).bind fun t22_10 =>
 (pr.pick t19_7 (LV.bool true) t22_10).bind fun t23_11 =>
 (pr.guard t23_11 false).bind fun b13 =>
 (if b13 = true then some a1 else some LV.undef).bind fun t25_13 =>
 (pr.guard t23_11 false).bind fun b14 =>
 (if b14 = true then pr.bin .gtr t25_13 (LV.int .i64 65535) else some LV.undef).bind fun t26_14 =>
 (pr.pick t23_11 (LV.bool true) t26_14).bind fun t27_15 =>
 condK t27_15 (
 pr.fin none t3_0.2 [LV.nils, (LV.int .i64 1)]) (
 (pr.bin .leq t16_4 a1).bind fun t31_21 =>
 condK t31_21 (
 (pr.load 42 true t3_0.2 t3_0.1).bind fun t32_23 =>
 (pr.bsl (LV.agg [(LV.int .i64 0), (LV.int .i64 0), (LV.int .i64 0), (LV.bytes [0, 0, 0, 0, 0, 0, 0, 0, 0, 0, 0, 0, 0, 0, 0, 0]), (LV.bytes [0, 0, 0, 0, 0, 0, 0, 0, 0, 0, 0, 0, 0, 0, 0, 0]), LV.nils, (LV.bool false), (LV.int .u32 0), (LV.int .i64 0), (LV.bool false), (LV.int .i64 0), (LV.str [])]) 1 [(0, t32_23)]).bind fun t33_24 =>
 pr.fin none t3_0.2 [t33_24, (LV.int .i64 0)]) (
 (pr.fieldAddr 11 41 t3_0.1).bind fun t35_28 =>
 (pr.load 1 false t3_0.2 t35_28).bind fun t36_29 =>
 (pr.len true t36_29).bind fun t37_30 =>
 (pr.bin .sub t16_4 t37_30).bind fun t38_31 =>
 (pr.fieldAddr 6 36 t3_0.1).bind fun t39_33 =>
 (pr.load 1 false t3_0.2 t39_33).bind fun t40_34 =>
 (pr.un .not t40_34).bind fun t41_35 =>
 condK t41_35 (
 (pr.bin .add t38_31 (LV.int .i64 8)).bind fun t43_37 =>
 (pr.fieldAddr 7 37 t3_0.1).bind fun t45_40 =>
 (pr.store 1 false t3_0.2 t45_40 a2).bind fun u41 =>
 (pr.bin .sub a1 t43_37).bind fun t48_44 =>
 (pr.bin .quo t48_44 (LV.int .i64 8)).bind fun t49_45 =>
 (pr.bin .mul t49_45 (LV.int .i64 8)).bind fun t50_46 =>
 (pr.bin .sub a1 t43_37).bind fun t53_50 =>
 (pr.bin .lss t53_50 (LV.int .i64 8)).bind fun t54_51 =>
 condK t54_51 (
 pr.fin none u41.2 [LV.nils, (LV.int .i64 13)]) (
 (pr.nilT 42 11 u41.2).bind fun t11_54 =>
 (pr.fieldAddr 11 41 t3_0.1).bind fun t55_55 =>
 (pr.load 1 false t11_54.2 t55_55).bind fun t56_56 =>
 (pr.len true t56_56).bind fun t57_57 =>
 (pr.call g id_refrag_pieces t11_54.2 [t57_57, t50_46]).bind fun t59_59 =>
 (pr.len false t59_59).bind fun t60_60 =>
 (whileW (fun q62 : List LV × Slots =>
 (pr.bin .lss (getL q62.1 1) t60_60).bind fun t62_63 =>
 condK t62_63 (
 (pr.idxAddr none 2 t59_59 (getL q62.1 1)).bind fun t63_64 =>
 (pr.load 2 true q62.2 t63_64).bind fun t64_65 =>
 (pr.alloc (LV.agg [(LV.int .i64 0), (LV.int .i64 0)]) 13 q62.2).bind fun t13_66 =>
 (pr.store 2 true t13_66.2 t13_66.1 t64_65).bind fun u67 =>
 (pr.load 42 true u67.2 t3_0.1).bind fun t65_68 =>
 (pr.alloc (LV.agg [(LV.int .i64 0), (LV.int .i64 0), (LV.int .i64 0), (LV.bytes [0, 0, 0, 0, 0, 0, 0, 0, 0, 0, 0, 0, 0, 0, 0, 0]), (LV.bytes [0, 0, 0, 0, 0, 0, 0, 0, 0, 0, 0, 0, 0, 0, 0, 0]), LV.nils, (LV.bool false), (LV.int .u32 0), (LV.int .i64 0), (LV.bool false), (LV.int .i64 0), (LV.str [])]) 14 u67.2).bind fun t14_69 =>
 (pr.store 42 true t14_69.2 t14_69.1 t65_68).bind fun u70 =>
 (pr.fieldAddr 6 36 t14_69.1).bind fun t66_71 =>
 (pr.store 1 false u70.2 t66_71 (LV.bool true)).bind fun u72 =>
 (pr.fieldAddr 5 35 t3_0.1).bind fun t67_73 =>
 (pr.load 1 false u72.2 t67_73).bind fun t68_74 =>
 (pr.call g id_slices_Clone_api_Ext_api_Ext u72.2 [t68_74]).bind fun t69_75 =>
 (pr.fieldAddr 5 35 t14_69.1).bind fun t70_76 =>
 (pr.store 1 false u72.2 t70_76 t69_75).bind fun u77 =>
 (pr.fieldAddr 8 38 t3_0.1).bind fun t71_78 =>
 (pr.load 1 false u77.2 t71_78).bind fun t72_79 =>
 (pr.fieldAddr 0 0 t13_66.1).bind fun t73_80 =>
 (pr.load 1 false u77.2 t73_80).bind fun t74_81 =>
 (pr.bin .add t72_79 t74_81).bind fun t75_82 =>
 (pr.fieldAddr 11 41 t3_0.1).bind fun t76_83 =>
 (pr.load 1 false u77.2 t76_83).bind fun t77_84 =>
 (pr.fieldAddr 0 0 t13_66.1).bind fun t78_85 =>
 (pr.load 1 false u77.2 t78_85).bind fun t79_86 =>
 (pr.fieldAddr 1 1 t13_66.1).bind fun t80_87 =>
 (pr.load 1 false u77.2 t80_87).bind fun t81_88 =>
 (pr.slc 0 t77_84 (some t79_86) (some t81_88)).bind fun t82_89 =>
 (pr.fieldAddr 9 39 t3_0.1).bind fun t83_90 =>
 (pr.load 1 false u77.2 t83_90).bind fun t84_91 =>
 (pr.guard t84_91 false).bind fun b93 =>
 (if b93 = true then pr.fieldAddr 1 1 t13_66.1 else some LV.undef).bind fun t86_93 =>
 (pr.guard t84_91 false).bind fun b94 =>
 (if b94 = true then pr.load 1 false u77.2 t86_93 else some LV.undef).bind fun t87_94 =>
 (pr.guard t84_91 false).bind fun b95 =>
 (if b95 = true then pr.fieldAddr 11 41 t3_0.1 else some LV.undef).bind fun t88_95 =>
 (pr.guard t84_91 false).bind fun b96 =>
 (if b96 = true then pr.load 1 false u77.2 t88_95 else some LV.undef).bind fun t89_96 =>
 (pr.guard t84_91 false).bind fun b97 =>
 (if b97 = true then pr.len true t89_96 else some LV.undef).bind fun t90_97 =>
 (pr.guard t84_91 false).bind fun b98 =>
 (if b98 = true then pr.bin .lss t87_94 t90_97 else some LV.undef).bind fun t91_98 =>
 (pr.pick t84_91 (LV.bool true) t91_98).bind fun t92_99 =>
 (pr.fieldAddr 8 38 t14_69.1).bind fun t93_100 =>
 (pr.store 1 false u77.2 t93_100 t75_82).bind fun u101 =>
 (pr.fieldAddr 11 41 t14_69.1).bind fun t94_102 =>
 (pr.store 1 false u101.2 t94_102 t82_89).bind fun u103 =>
 (pr.fieldAddr 9 39 t14_69.1).bind fun t95_104 =>
 (pr.store 1 false u103.2 t95_104 t92_99).bind fun u105 =>
 if noMeet t76_83 t93_100 = true then (if noMeet t78_85 t93_100 = true then (if noMeet t80_87 t93_100 = true then (if noMeet t86_93 t93_100 = true then (if noMeet t88_95 t93_100 = true then (if noMeet t86_93 t94_102 = true then (if noMeet t88_95 t94_102 = true then ((pr.load 42 true u105.2 t14_69.1).bind fun t97_107 =>
 (pr.bsl (LV.agg [(LV.int .i64 0), (LV.int .i64 0), (LV.int .i64 0), (LV.bytes [0, 0, 0, 0, 0, 0, 0, 0, 0, 0, 0, 0, 0, 0, 0, 0]), (LV.bytes [0, 0, 0, 0, 0, 0, 0, 0, 0, 0, 0, 0, 0, 0, 0, 0]), LV.nils, (LV.bool false), (LV.int .u32 0), (LV.int .i64 0), (LV.bool false), (LV.int .i64 0), (LV.str [])]) 1 [(0, t97_107)]).bind fun t98_108 =>
 (pr.append 42 128 99 u105.2 (getL q62.1 0) t98_108).bind fun t99_109 =>
 (pr.bin .add (getL q62.1 1) (LV.int .i64 1)).bind fun t100_111 =>
 pr.round t11_54.2 .normal [t99_109.1, t100_111] t99_109.2) else none) else none) else none) else none) else none) else none) else none) (
 pr.round t11_54.2 (.exit 1) [(getL q62.1 0), (getL q62.1 1)] q62.2)) ([t11_54.1, (LV.int .i64 0)], t11_54.2)).bind fun r62 =>
 exIf r62.1 (.exit 1) (
 pr.fin none r62.2.2 [(getL r62.2.1 0), (LV.int .i64 0)]) (none))) (
 (pr.bin .sub a1 t38_31).bind fun t48_118 =>
 (pr.bin .quo t48_118 (LV.int .i64 8)).bind fun t49_119 =>
 (pr.bin .mul t49_119 (LV.int .i64 8)).bind fun t50_120 =>
 (pr.bin .sub a1 t38_31).bind fun t53_124 =>
 (pr.bin .lss t53_124 (LV.int .i64 8)).bind fun t54_125 =>
 condK t54_125 (
 pr.fin none t3_0.2 [LV.nils, (LV.int .i64 13)]) (
 (pr.nilT 42 11 t3_0.2).bind fun t11_128 =>
 (pr.fieldAddr 11 41 t3_0.1).bind fun t55_129 =>
 (pr.load 1 false t11_128.2 t55_129).bind fun t56_130 =>
 (pr.len true t56_130).bind fun t57_131 =>
 (pr.call g id_refrag_pieces t11_128.2 [t57_131, t50_120]).bind fun t59_133 =>
 (pr.len false t59_133).bind fun t60_134 =>
 (whileW (fun q136 : List LV × Slots =>
 (pr.bin .lss (getL q136.1 1) t60_134).bind fun t62_137 =>
 condK t62_137 (
 (pr.idxAddr none 2 t59_133 (getL q136.1 1)).bind fun t63_138 =>
 (pr.load 2 true q136.2 t63_138).bind fun t64_139 =>
 (pr.alloc (LV.agg [(LV.int .i64 0), (LV.int .i64 0)]) 13 q136.2).bind fun t13_140 =>
 (pr.store 2 true t13_140.2 t13_140.1 t64_139).bind fun u141 =>
 (pr.load 42 true u141.2 t3_0.1).bind fun t65_142 =>
 (pr.alloc (LV.agg [(LV.int .i64 0), (LV.int .i64 0), (LV.int .i64 0), (LV.bytes [0, 0, 0, 0, 0, 0, 0, 0, 0, 0, 0, 0, 0, 0, 0, 0]), (LV.bytes [0, 0, 0, 0, 0, 0, 0, 0, 0, 0, 0, 0, 0, 0, 0, 0]), LV.nils, (LV.bool false), (LV.int .u32 0), (LV.int .i64 0), (LV.bool false), (LV.int .i64 0), (LV.str [])]) 14 u141.2).bind fun t14_143 =>
 (pr.store 42 true t14_143.2 t14_143.1 t65_142).bind fun u144 =>
 (pr.fieldAddr 6 36 t14_143.1).bind fun t66_145 =>
 (pr.store 1 false u144.2 t66_145 (LV.bool true)).bind fun u146 =>
 (pr.fieldAddr 5 35 t3_0.1).bind fun t67_147 =>
 (pr.load 1 false u146.2 t67_147).bind fun t68_148 =>
 (pr.call g id_slices_Clone_api_Ext_api_Ext u146.2 [t68_148]).bind fun t69_149 =>
 (pr.fieldAddr 5 35 t14_143.1).bind fun t70_150 =>
 (pr.store 1 false u146.2 t70_150 t69_149).bind fun u151 =>
 (pr.fieldAddr 8 38 t3_0.1).bind fun t71_152 =>
 (pr.load 1 false u151.2 t71_152).bind fun t72_153 =>
 (pr.fieldAddr 0 0 t13_140.1).bind fun t73_154 =>
 (pr.load 1 false u151.2 t73_154).bind fun t74_155 =>
 (pr.bin .add t72_153 t74_155).bind fun t75_156 =>
 (pr.fieldAddr 11 41 t3_0.1).bind fun t76_157 =>
 (pr.load 1 false u151.2 t76_157).bind fun t77_158 =>
 (pr.fieldAddr 0 0 t13_140.1).bind fun t78_159 =>
 (pr.load 1 false u151.2 t78_159).bind fun t79_160 =>
 (pr.fieldAddr 1 1 t13_140.1).bind fun t80_161 =>
 (pr.load 1 false u151.2 t80_161).bind fun t81_162 =>
 (pr.slc 0 t77_158 (some t79_160) (some t81_162)).bind fun t82_163 =>
 (pr.fieldAddr 9 39 t3_0.1).bind fun t83_164 =>
 (pr.load 1 false u151.2 t83_164).bind fun t84_165 =>
 (pr.guard t84_165 false).bind fun b167 =>
 (if b167 = true then pr.fieldAddr 1 1 t13_140.1 else some LV.undef).bind fun t86_167 =>
 (pr.guard t84_165 false).bind fun b168 =>
 (if b168 = true then pr.load 1 false u151.2 t86_167 else some LV.undef).bind fun t87_168 =>
 (pr.guard t84_165 false).bind fun b169 =>
 (if b169 = true then pr.fieldAddr 11 41 t3_0.1 else some LV.undef).bind fun t88_169 =>
 (pr.guard t84_165 false).bind fun b170 =>
 (if b170 = true then pr.load 1 false u151.2 t88_169 else some LV.undef).bind fun t89_170 =>
 (pr.guard t84_165 false).bind fun b171 =>
 (if b171 = true then pr.len true t89_170 else some LV.undef).bind fun t90_171 =>
 (pr.guard t84_165 false).bind fun b172 =>
 (if b172 = true then pr.bin .lss t87_168 t90_171 else some LV.undef).bind fun t91_172 =>
 (pr.pick t84_165 (LV.bool true) t91_172).bind fun t92_173 =>
 (pr.fieldAddr 8 38 t14_143.1).bind fun t93_174 =>
 (pr.store 1 false u151.2 t93_174 t75_156).bind fun u175 =>
 (pr.fieldAddr 11 41 t14_143.1).bind fun t94_176 =>
 (pr.store 1 false u175.2 t94_176 t82_163).bind fun u177 =>
 (pr.fieldAddr 9 39 t14_143.1).bind fun t95_178 =>
 (pr.store 1 false u177.2 t95_178 t92_173).bind fun u179 =>
 if noMeet t76_157 t93_174 = true then (if noMeet t78_159 t93_174 = true then (if noMeet t80_161 t93_174 = true then (if noMeet t86_167 t93_174 = true then (if noMeet t88_169 t93_174 = true then (if noMeet t86_167 t94_176 = true then (if noMeet t88_169 t94_176 = true then ((pr.load 42 true u179.2 t14_143.1).bind fun t97_181 =>
 (pr.bsl (LV.agg [(LV.int .i64 0), (LV.int .i64 0), (LV.int .i64 0), (LV.bytes [0, 0, 0, 0, 0, 0, 0, 0, 0, 0, 0, 0, 0, 0, 0, 0]), (LV.bytes [0, 0, 0, 0, 0, 0, 0, 0, 0, 0, 0, 0, 0, 0, 0, 0]), LV.nils, (LV.bool false), (LV.int .u32 0), (LV.int .i64 0), (LV.bool false), (LV.int .i64 0), (LV.str [])]) 1 [(0, t97_181)]).bind fun t98_182 =>
 (pr.append 42 128 99 u179.2 (getL q136.1 0) t98_182).bind fun t99_183 =>
 (pr.bin .add (getL q136.1 1) (LV.int .i64 1)).bind fun t100_185 =>
 pr.round t11_128.2 .normal [t99_183.1, t100_185] t99_183.2) else none) else none) else none) else none) else none) else none) else none) (
 pr.round t11_128.2 (.exit 1) [(getL q136.1 0), (getL q136.1 1)] q136.2)) ([t11_128.1, (LV.int .i64 0)], t11_128.2)).bind fun r136 =>
 exIf r136.1 (.exit 1) (
 pr.fin none r136.2.2 [(getL r136.2.1 0), (LV.int .i64 0)]) (none)))))
theorem F_refrag_Cut6_eq (g : Call) (a0 : LV) (a1 : LV) (a2 : LV) : fnEv g c_refrag_Cut6 [a0, a1, a2] none = F_refrag_Cut6 g a0 a1 a2 := by kernel_rfl

/-- interpreter/ip6.Bytes -/
noncomputable def F_ip6_Bytes (g : Call) (a0 : LV) : Option (LV × Option LV) :=
 (pr.box a0).bind fun t1_0 =>
 (pr.load 42 true noSlots t1_0).bind fun t10_3 =>
 (pr.call g id_ip6_why noSlots [t10_3]).bind fun t11_4 =>
 (pr.bin .neq t11_4 (LV.int .i64 0)).bind fun t13_7 =>
 condK t13_7 (
 (pr.call g id_ip6_fault noSlots [t11_4]).bind fun t15_9 =>
 pr.fin none noSlots [(LV.str []), t15_9]) (
 (pr.fieldAddr 10 40 t1_0).bind fun t16_12 =>
 (pr.load 1 false noSlots t16_12).bind fun t17_13 =>
 (pr.fieldAddr 11 41 t1_0).bind fun t18_14 =>
 (pr.load 1 false noSlots t18_14).bind fun t19_15 =>
 (pr.fieldAddr 6 36 t1_0).bind fun t20_18 =>
 (pr.load 1 false noSlots t20_18).bind fun t21_19 =>
 condK t21_19 (
 (pr.fieldAddr 8 38 t1_0).bind fun t22_20 =>
 (pr.load 1 false noSlots t22_20).bind fun t23_21 =>
 (pr.fieldAddr 9 39 t1_0).bind fun t24_23 =>
 (pr.load 1 false noSlots t24_23).bind fun t25_24 =>
 condK t25_24 (
 (pr.bin .add t23_21 (LV.int .i64 1)).bind fun t27_26 =>
 (pr.call g id_ip6_big noSlots [t17_13, (LV.int .i64 1)]).bind fun t29_29 =>
 (pr.bin .add t29_29 (LV.str [0])).bind fun t30_30 =>
 (pr.call g id_ip6_big noSlots [t27_26, (LV.int .i64 2)]).bind fun t32_32 =>
 (pr.bin .add t30_30 t32_32).bind fun t33_33 =>
 (pr.fieldAddr 7 37 t1_0).bind fun t34_34 =>
 (pr.load 1 false noSlots t34_34).bind fun t35_35 =>
 (pr.conv .i64 t35_35).bind fun t36_36 =>
 (pr.call g id_ip6_big noSlots [t36_36, (LV.int .i64 4)]).bind fun t37_37 =>
 (pr.bin .add t33_33 t37_37).bind fun t38_38 =>
 (pr.bin .add t38_38 t19_15).bind fun t40_40 =>
 (pr.fieldAddr 5 35 t1_0).bind fun t41_43 =>
 (pr.load 1 false noSlots t41_43).bind fun t42_44 =>
 (pr.len false t42_44).bind fun t43_45 =>
 (pr.bin .sub t43_45 (LV.int .i64 1)).bind fun t44_46 =>
 (whileW (fun q48 : List LV × Slots =>
 (pr.bin .geq (getL q48.1 2) (LV.int .i64 0)).bind fun t46_50 =>
 condK t46_50 (
 (pr.fieldAddr 5 35 t1_0).bind fun t49_51 =>
 (pr.load 1 false q48.2 t49_51).bind fun t50_52 =>
 (pr.idxAddr none 2 t50_52 (getL q48.1 2)).bind fun t52_54 =>
 (pr.load 2 true q48.2 t52_54).bind fun t53_55 =>
 (pr.alloc (LV.agg [(LV.int .i64 0), (LV.str [])]) 9 q48.2).bind fun t9_56 =>
 (pr.store 2 true t9_56.2 t9_56.1 t53_55).bind fun u57 =>
 (pr.call g id_ip6_big u57.2 [(getL q48.1 1), (LV.int .i64 1)]).bind fun t55_59 =>
 (pr.fieldAddr 1 1 t9_56.1).bind fun t56_60 =>
 (pr.load 1 false u57.2 t56_60).bind fun t57_61 =>
 (pr.len true t57_61).bind fun t58_62 =>
 (pr.bin .quo t58_62 (LV.int .i64 8)).bind fun t59_63 =>
 (pr.call g id_ip6_big u57.2 [t59_63, (LV.int .i64 1)]).bind fun t60_64 =>
 (pr.bin .add t55_59 t60_64).bind fun t61_65 =>
 (pr.fieldAddr 1 1 t9_56.1).bind fun t62_66 =>
 (pr.load 1 false u57.2 t62_66).bind fun t63_67 =>
 (pr.bin .add t61_65 t63_67).bind fun t64_68 =>
 (pr.bin .add t64_68 (getL q48.1 0)).bind fun t66_70 =>
 (pr.fieldAddr 0 0 t9_56.1).bind fun t67_72 =>
 (pr.load 1 false u57.2 t67_72).bind fun t68_73 =>
 (pr.bin .sub (getL q48.1 2) (LV.int .i64 1)).bind fun t48_76 =>
 pr.round noSlots .normal [t66_70, t68_73, t48_76] u57.2) (
 pr.round noSlots (.exit 0) [(getL q48.1 0), (getL q48.1 1), (getL q48.1 2)] q48.2)) ([t40_40, (LV.int .i64 44), t44_46], noSlots)).bind fun r48 =>
 exIf r48.1 (.exit 0) (
 (pr.fieldAddr 0 0 t1_0).bind fun t69_78 =>
 (pr.load 1 false r48.2.2 t69_78).bind fun t70_79 =>
 (pr.bin .shl t70_79 (LV.int .u64 20)).bind fun t71_80 =>
 (pr.bin .or (LV.int .i64 1610612736) t71_80).bind fun t72_81 =>
 (pr.fieldAddr 1 1 t1_0).bind fun t73_82 =>
 (pr.load 1 false r48.2.2 t73_82).bind fun t74_83 =>
 (pr.bin .or t72_81 t74_83).bind fun t75_84 =>
 (pr.call g id_ip6_big r48.2.2 [t75_84, (LV.int .i64 4)]).bind fun t76_85 =>
 (pr.len true (getL r48.2.1 0)).bind fun t78_87 =>
 (pr.call g id_ip6_big r48.2.2 [t78_87, (LV.int .i64 2)]).bind fun t79_88 =>
 (pr.bin .add t76_85 t79_88).bind fun t80_89 =>
 (pr.call g id_ip6_big r48.2.2 [(getL r48.2.1 1), (LV.int .i64 1)]).bind fun t82_91 =>
 (pr.bin .add t80_89 t82_91).bind fun t83_92 =>
 (pr.fieldAddr 2 2 t1_0).bind fun t84_93 =>
 (pr.load 1 false r48.2.2 t84_93).bind fun t85_94 =>
 (pr.call g id_ip6_big r48.2.2 [t85_94, (LV.int .i64 1)]).bind fun t86_95 =>
 (pr.bin .add t83_92 t86_95).bind fun t87_96 =>
 (pr.fieldAddr 3 3 t1_0).bind fun t88_97 =>
 (pr.slcArr 16 r48.2.2 t88_97 none none).bind fun t89_98 =>
 (pr.b2s r48.2.2 t89_98).bind fun t90_99 =>
 (pr.bin .add t87_96 t90_99).bind fun t91_100 =>
 (pr.fieldAddr 4 19 t1_0).bind fun t92_101 =>
 (pr.slcArr 16 r48.2.2 t92_101 none none).bind fun t93_102 =>
 (pr.b2s r48.2.2 t93_102).bind fun t94_103 =>
 (pr.bin .add t91_100 t94_103).bind fun t95_104 =>
 (pr.bin .add t95_104 (getL r48.2.1 0)).bind fun t97_106 =>
 pr.fin none r48.2.2 [t97_106, LV.nili]) (none)) (
 (pr.call g id_ip6_big noSlots [t17_13, (LV.int .i64 1)]).bind fun t29_110 =>
 (pr.bin .add t29_110 (LV.str [0])).bind fun t30_111 =>
 (pr.call g id_ip6_big noSlots [t23_21, (LV.int .i64 2)]).bind fun t32_113 =>
 (pr.bin .add t30_111 t32_113).bind fun t33_114 =>
 (pr.fieldAddr 7 37 t1_0).bind fun t34_115 =>
 (pr.load 1 false noSlots t34_115).bind fun t35_116 =>
 (pr.conv .i64 t35_116).bind fun t36_117 =>
 (pr.call g id_ip6_big noSlots [t36_117, (LV.int .i64 4)]).bind fun t37_118 =>
 (pr.bin .add t33_114 t37_118).bind fun t38_119 =>
 (pr.bin .add t38_119 t19_15).bind fun t40_121 =>
 (pr.fieldAddr 5 35 t1_0).bind fun t41_124 =>
 (pr.load 1 false noSlots t41_124).bind fun t42_125 =>
 (pr.len false t42_125).bind fun t43_126 =>
 (pr.bin .sub t43_126 (LV.int .i64 1)).bind fun t44_127 =>
 (whileW (fun q129 : List LV × Slots =>
 (pr.bin .geq (getL q129.1 2) (LV.int .i64 0)).bind fun t46_131 =>
 condK t46_131 (
 (pr.fieldAddr 5 35 t1_0).bind fun t49_132 =>
 (pr.load 1 false q129.2 t49_132).bind fun t50_133 =>
 (pr.idxAddr none 2 t50_133 (getL q129.1 2)).bind fun t52_135 =>
 (pr.load 2 true q129.2 t52_135).bind fun t53_136 =>
 (pr.alloc (LV.agg [(LV.int .i64 0), (LV.str [])]) 9 q129.2).bind fun t9_137 =>
 (pr.store 2 true t9_137.2 t9_137.1 t53_136).bind fun u138 =>
 (pr.call g id_ip6_big u138.2 [(getL q129.1 1), (LV.int .i64 1)]).bind fun t55_140 =>
 (pr.fieldAddr 1 1 t9_137.1).bind fun t56_141 =>
 (pr.load 1 false u138.2 t56_141).bind fun t57_142 =>
 (pr.len true t57_142).bind fun t58_143 =>
 (pr.bin .quo t58_143 (LV.int .i64 8)).bind fun t59_144 =>
 (pr.call g id_ip6_big u138.2 [t59_144, (LV.int .i64 1)]).bind fun t60_145 =>
 (pr.bin .add t55_140 t60_145).bind fun t61_146 =>
 (pr.fieldAddr 1 1 t9_137.1).bind fun t62_147 =>
 (pr.load 1 false u138.2 t62_147).bind fun t63_148 =>
 (pr.bin .add t61_146 t63_148).bind fun t64_149 =>
 (pr.bin .add t64_149 (getL q129.1 0)).bind fun t66_151 =>
 (pr.fieldAddr 0 0 t9_137.1).bind fun t67_153 =>
 (pr.load 1 false u138.2 t67_153).bind fun t68_154 =>
 (pr.bin .sub (getL q129.1 2) (LV.int .i64 1)).bind fun t48_157 =>
 pr.round noSlots .normal [t66_151, t68_154, t48_157] u138.2) (
 pr.round noSlots (.exit 0) [(getL q129.1 0), (getL q129.1 1), (getL q129.1 2)] q129.2)) ([t40_121, (LV.int .i64 44), t44_127], noSlots)).bind fun r129 =>
 exIf r129.1 (.exit 0) (
 (pr.fieldAddr 0 0 t1_0).bind fun t69_159 =>
 (pr.load 1 false r129.2.2 t69_159).bind fun t70_160 =>
 (pr.bin .shl t70_160 (LV.int .u64 20)).bind fun t71_161 =>
 (pr.bin .or (LV.int .i64 1610612736) t71_161).bind fun t72_162 =>
 (pr.fieldAddr 1 1 t1_0).bind fun t73_163 =>
 (pr.load 1 false r129.2.2 t73_163).bind fun t74_164 =>
 (pr.bin .or t72_162 t74_164).bind fun t75_165 =>
 (pr.call g id_ip6_big r129.2.2 [t75_165, (LV.int .i64 4)]).bind fun t76_166 =>
 (pr.len true (getL r129.2.1 0)).bind fun t78_168 =>
 (pr.call g id_ip6_big r129.2.2 [t78_168, (LV.int .i64 2)]).bind fun t79_169 =>
 (pr.bin .add t76_166 t79_169).bind fun t80_170 =>
 (pr.call g id_ip6_big r129.2.2 [(getL r129.2.1 1), (LV.int .i64 1)]).bind fun t82_172 =>
 (pr.bin .add t80_170 t82_172).bind fun t83_173 =>
 (pr.fieldAddr 2 2 t1_0).bind fun t84_174 =>
 (pr.load 1 false r129.2.2 t84_174).bind fun t85_175 =>
 (pr.call g id_ip6_big r129.2.2 [t85_175, (LV.int .i64 1)]).bind fun t86_176 =>
 (pr.bin .add t83_173 t86_176).bind fun t87_177 =>
 (pr.fieldAddr 3 3 t1_0).bind fun t88_178 =>
 (pr.slcArr 16 r129.2.2 t88_178 none none).bind fun t89_179 =>
 (pr.b2s r129.2.2 t89_179).bind fun t90_180 =>
 (pr.bin .add t87_177 t90_180).bind fun t91_181 =>
 (pr.fieldAddr 4 19 t1_0).bind fun t92_182 =>
 (pr.slcArr 16 r129.2.2 t92_182 none none).bind fun t93_183 =>
 (pr.b2s r129.2.2 t93_183).bind fun t94_184 =>
 (pr.bin .add t91_181 t94_184).bind fun t95_185 =>
 (pr.bin .add t95_185 (getL r129.2.1 0)).bind fun t97_187 =>
 pr.fin none r129.2.2 [t97_187, LV.nili]) (none))) (
 (pr.fieldAddr 5 35 t1_0).bind fun t41_190 =>
 (pr.load 1 false noSlots t41_190).bind fun t42_191 =>
 (pr.len false t42_191).bind fun t43_192 =>
 (pr.bin .sub t43_192 (LV.int .i64 1)).bind fun t44_193 =>
 (whileW (fun q195 : List LV × Slots =>
 (pr.bin .geq (getL q195.1 2) (LV.int .i64 0)).bind fun t46_197 =>
 condK t46_197 (
 (pr.fieldAddr 5 35 t1_0).bind fun t49_198 =>
 (pr.load 1 false q195.2 t49_198).bind fun t50_199 =>
 (pr.idxAddr none 2 t50_199 (getL q195.1 2)).bind fun t52_201 =>
 (pr.load 2 true q195.2 t52_201).bind fun t53_202 =>
 (pr.alloc (LV.agg [(LV.int .i64 0), (LV.str [])]) 9 q195.2).bind fun t9_203 =>
 (pr.store 2 true t9_203.2 t9_203.1 t53_202).bind fun u204 =>
 (pr.call g id_ip6_big u204.2 [(getL q195.1 1), (LV.int .i64 1)]).bind fun t55_206 =>
 (pr.fieldAddr 1 1 t9_203.1).bind fun t56_207 =>
 (pr.load 1 false u204.2 t56_207).bind fun t57_208 =>
 (pr.len true t57_208).bind fun t58_209 =>
 (pr.bin .quo t58_209 (LV.int .i64 8)).bind fun t59_210 =>
 (pr.call g id_ip6_big u204.2 [t59_210, (LV.int .i64 1)]).bind fun t60_211 =>
 (pr.bin .add t55_206 t60_211).bind fun t61_212 =>
 (pr.fieldAddr 1 1 t9_203.1).bind fun t62_213 =>
 (pr.load 1 false u204.2 t62_213).bind fun t63_214 =>
 (pr.bin .add t61_212 t63_214).bind fun t64_215 =>
 (pr.bin .add t64_215 (getL q195.1 0)).bind fun t66_217 =>
 (pr.fieldAddr 0 0 t9_203.1).bind fun t67_219 =>
 (pr.load 1 false u204.2 t67_219).bind fun t68_220 =>
 (pr.bin .sub (getL q195.1 2) (LV.int .i64 1)).bind fun t48_223 =>
 pr.round noSlots .normal [t66_217, t68_220, t48_223] u204.2) (
 pr.round noSlots (.exit 0) [(getL q195.1 0), (getL q195.1 1), (getL q195.1 2)] q195.2)) ([t19_15, t17_13, t44_193], noSlots)).bind fun r195 =>
 exIf r195.1 (.exit 0) (
 (pr.fieldAddr 0 0 t1_0).bind fun t69_225 =>
 (pr.load 1 false r195.2.2 t69_225).bind fun t70_226 =>
 (pr.bin .shl t70_226 (LV.int .u64 20)).bind fun t71_227 =>
 (pr.bin .or (LV.int .i64 1610612736) t71_227).bind fun t72_228 =>
 (pr.fieldAddr 1 1 t1_0).bind fun t73_229 =>
 (pr.load 1 false r195.2.2 t73_229).bind fun t74_230 =>
 (pr.bin .or t72_228 t74_230).bind fun t75_231 =>
 (pr.call g id_ip6_big r195.2.2 [t75_231, (LV.int .i64 4)]).bind fun t76_232 =>
 (pr.len true (getL r195.2.1 0)).bind fun t78_234 =>
 (pr.call g id_ip6_big r195.2.2 [t78_234, (LV.int .i64 2)]).bind fun t79_235 =>
 (pr.bin .add t76_232 t79_235).bind fun t80_236 =>
 (pr.call g id_ip6_big r195.2.2 [(getL r195.2.1 1), (LV.int .i64 1)]).bind fun t82_238 =>
 (pr.bin .add t80_236 t82_238).bind fun t83_239 =>
 (pr.fieldAddr 2 2 t1_0).bind fun t84_240 =>
 (pr.load 1 false r195.2.2 t84_240).bind fun t85_241 =>
 (pr.call g id_ip6_big r195.2.2 [t85_241, (LV.int .i64 1)]).bind fun t86_242 =>
 (pr.bin .add t83_239 t86_242).bind fun t87_243 =>
 (pr.fieldAddr 3 3 t1_0).bind fun t88_244 =>
 (pr.slcArr 16 r195.2.2 t88_244 none none).bind fun t89_245 =>
 (pr.b2s r195.2.2 t89_245).bind fun t90_246 =>
 (pr.bin .add t87_243 t90_246).bind fun t91_247 =>
 (pr.fieldAddr 4 19 t1_0).bind fun t92_248 =>
 (pr.slcArr 16 r195.2.2 t92_248 none none).bind fun t93_249 =>
 (pr.b2s r195.2.2 t93_249).bind fun t94_250 =>
 (pr.bin .add t91_247 t94_250).bind fun t95_251 =>
 (pr.bin .add t95_251 (getL r195.2.1 0)).bind fun t97_253 =>
 pr.fin none r195.2.2 [t97_253, LV.nili]) (none)))
theorem F_ip6_Bytes_eq (g : Call) (a0 : LV) : fnEv g c_ip6_Bytes [a0] none = F_ip6_Bytes g a0 := by kernel_rfl

/-- interpreter/refrag.Len6 -/
noncomputable def F_refrag_Len6 (g : Call) (a0 : LV) : Option (LV × Option LV) :=
 (pr.box a0).bind fun t1_0 =>
 (pr.load 42 true noSlots t1_0).bind fun t6_2 =>
 (pr.call g id_ip6_Bytes noSlots [t6_2]).bind fun t7_3 =>
 (pr.extract t7_3 0).bind fun t8_5 =>
 (pr.extract t7_3 1).bind fun t9_6 =>
 (pr.eqNil 1 true t9_6).bind fun t11_10 =>
 condK t11_10 (
 pr.fin none noSlots [(LV.int .i64 0)]) (
 (pr.len true t8_5).bind fun t13_13 =>
 pr.fin none noSlots [t13_13])
theorem F_refrag_Len6_eq (g : Call) (a0 : LV) : fnEv g c_refrag_Len6 [a0] none = F_refrag_Len6 g a0 := by kernel_rfl

/-- interpreter/interpreterref17.Cut6 -/
noncomputable def F_interpreterref17_Cut6 (g : Call) (a0 : LV) (a1 : LV) (a2 : LV) : Option (LV × Option LV) :=
 (pr.box a0).bind fun t3_0 =>
 (pr.bin .lss a1 (LV.int .i64 1280)).bind fun t13_4 =>
 (pr.guard t13_4 false).bind fun b6 =>
 (if b6 = true then some a1 else some LV.undef).bind fun t15_6 =>
 (pr.guard t13_4 false).bind fun b7 =>
 (if b7 = true then pr.bin .gtr t15_6 (LV.int .i64 65535) else some LV.undef).bind fun t16_7 =>
 (pr.pick t13_4 (LV.bool true) t16_7).bind fun t17_8 =>
 condK t17_8 (
 pr.fin none noSlots [LV.nils, (LV.int .i64 1)]) (
 (pr.load 42 true noSlots t3_0).bind fun t18_11 =>
 (pr.call g id_interpreterref17_Head6 noSlots [t18_11]).bind fun t19_12 =>
 (pr.fieldAddr 11 41 t3_0).bind fun t20_13 =>
 (pr.load 1 false noSlots t20_13).bind fun t21_14 =>
 (pr.len true t21_14).bind fun t22_15 =>
 (pr.bin .add t19_12 t22_15).bind fun t23_16 =>
 (pr.bin .leq t23_16 a1).bind fun t25_18 =>
 condK t25_18 (
 (pr.load 42 true noSlots t3_0).bind fun t26_19 =>
 (pr.bsl (LV.agg [(LV.int .i64 0), (LV.int .i64 0), (LV.int .i64 0), (LV.bytes [0, 0, 0, 0, 0, 0, 0, 0, 0, 0, 0, 0, 0, 0, 0, 0]), (LV.bytes [0, 0, 0, 0, 0, 0, 0, 0, 0, 0, 0, 0, 0, 0, 0, 0]), LV.nils, (LV.bool false), (LV.int .u32 0), (LV.int .i64 0), (LV.bool false), (LV.int .i64 0), (LV.str [])]) 1 [(0, t26_19)]).bind fun t27_20 =>
 pr.fin none noSlots [t27_20, (LV.int .i64 0)]) (
 (pr.load 42 true noSlots t3_0).bind fun t28_23 =>
 (pr.alloc (LV.agg [(LV.int .i64 0), (LV.int .i64 0), (LV.int .i64 0), (LV.bytes [0, 0, 0, 0, 0, 0, 0, 0, 0, 0, 0, 0, 0, 0, 0, 0]), (LV.bytes [0, 0, 0, 0, 0, 0, 0, 0, 0, 0, 0, 0, 0, 0, 0, 0]), LV.nils, (LV.bool false), (LV.int .u32 0), (LV.int .i64 0), (LV.bool false), (LV.int .i64 0), (LV.str [])]) 8 noSlots).bind fun t8_24 =>
 (pr.store 42 true t8_24.2 t8_24.1 t28_23).bind fun u25 =>
 (pr.fieldAddr 6 36 t3_0).bind fun t29_26 =>
 (pr.load 1 false u25.2 t29_26).bind fun t30_27 =>
 (pr.un .not t30_27).bind fun t31_28 =>
 condK t31_28 (
 (pr.fieldAddr 6 36 t8_24.1).bind fun t32_29 =>
 (pr.store 1 false u25.2 t32_29 (LV.bool true)).bind fun u30 =>
 (pr.fieldAddr 7 37 t8_24.1).bind fun t34_32 =>
 (pr.store 1 false u30.2 t34_32 a2).bind fun u33 =>
 (pr.load 42 true u33.2 t8_24.1).bind fun t36_35 =>
 (pr.call g id_interpreterref17_Head6 u33.2 [t36_35]).bind fun t37_36 =>
 (pr.call g id_interpreterref17_Room u33.2 [a1, t37_36]).bind fun t38_37 =>
 (pr.bin .eql t38_37 (LV.int .i64 0)).bind fun t40_40 =>
 condK t40_40 (
 pr.fin none u33.2 [LV.nils, (LV.int .i64 13)]) (
 (pr.nilT 42 10 u33.2).bind fun t10_43 =>
 (whileW (fun q44 : List LV × Slots =>
 (pr.fieldAddr 11 41 t8_24.1).bind fun t41_45 =>
 (pr.load 1 false q44.2 t41_45).bind fun t42_46 =>
 (pr.len true t42_46).bind fun t43_47 =>
 (pr.bin .gtr t43_47 t38_37).bind fun t45_49 =>
 condK t45_49 (
 (pr.load 42 true q44.2 t8_24.1).bind fun t46_50 =>
 (pr.alloc (LV.agg [(LV.int .i64 0), (LV.int .i64 0), (LV.int .i64 0), (LV.bytes [0, 0, 0, 0, 0, 0, 0, 0, 0, 0, 0, 0, 0, 0, 0, 0]), (LV.bytes [0, 0, 0, 0, 0, 0, 0, 0, 0, 0, 0, 0, 0, 0, 0, 0]), LV.nils, (LV.bool false), (LV.int .u32 0), (LV.int .i64 0), (LV.bool false), (LV.int .i64 0), (LV.str [])]) 11 q44.2).bind fun t11_51 =>
 (pr.store 42 true t11_51.2 t11_51.1 t46_50).bind fun u52 =>
 (pr.fieldAddr 11 41 t8_24.1).bind fun t47_53 =>
 (pr.load 1 false u52.2 t47_53).bind fun t48_54 =>
 (pr.slc 0 t48_54 none (some t38_37)).bind fun t50_56 =>
 (pr.fieldAddr 11 41 t11_51.1).bind fun t51_57 =>
 (pr.store 1 false u52.2 t51_57 t50_56).bind fun u58 =>
 (pr.fieldAddr 9 39 t11_51.1).bind fun t52_59 =>
 (pr.store 1 false u58.2 t52_59 (LV.bool true)).bind fun u60 =>
 (pr.load 42 true u60.2 t11_51.1).bind fun t54_62 =>
 (pr.bsl (LV.agg [(LV.int .i64 0), (LV.int .i64 0), (LV.int .i64 0), (LV.bytes [0, 0, 0, 0, 0, 0, 0, 0, 0, 0, 0, 0, 0, 0, 0, 0]), (LV.bytes [0, 0, 0, 0, 0, 0, 0, 0, 0, 0, 0, 0, 0, 0, 0, 0]), LV.nils, (LV.bool false), (LV.int .u32 0), (LV.int .i64 0), (LV.bool false), (LV.int .i64 0), (LV.str [])]) 1 [(0, t54_62)]).bind fun t55_63 =>
 (pr.append 42 128 56 u60.2 (getL q44.1 0) t55_63).bind fun t56_64 =>
 (pr.fieldAddr 8 38 t8_24.1).bind fun t57_66 =>
 (pr.load 1 false t56_64.2 t57_66).bind fun t58_67 =>
 (pr.bin .add t58_67 t38_37).bind fun t60_69 =>
 (pr.fieldAddr 8 38 t8_24.1).bind fun t61_70 =>
 (pr.store 1 false t56_64.2 t61_70 t60_69).bind fun u71 =>
 (pr.fieldAddr 11 41 t8_24.1).bind fun t62_72 =>
 (pr.load 1 false u71.2 t62_72).bind fun t63_73 =>
 (pr.slc 0 t63_73 (some t38_37) none).bind fun t65_75 =>
 (pr.fieldAddr 11 41 t8_24.1).bind fun t66_76 =>
 (pr.store 1 false u71.2 t66_76 t65_75).bind fun u77 =>
 pr.round t10_43.2 .normal [t56_64.1] u77.2) (
 pr.round t10_43.2 (.exit 0) [(getL q44.1 0)] q44.2)) ([t10_43.1], t10_43.2)).bind fun r44 =>
 exIf r44.1 (.exit 0) (
 (pr.load 42 true r44.2.2 t8_24.1).bind fun t68_79 =>
 (pr.bsl (LV.agg [(LV.int .i64 0), (LV.int .i64 0), (LV.int .i64 0), (LV.bytes [0, 0, 0, 0, 0, 0, 0, 0, 0, 0, 0, 0, 0, 0, 0, 0]), (LV.bytes [0, 0, 0, 0, 0, 0, 0, 0, 0, 0, 0, 0, 0, 0, 0, 0]), LV.nils, (LV.bool false), (LV.int .u32 0), (LV.int .i64 0), (LV.bool false), (LV.int .i64 0), (LV.str [])]) 1 [(0, t68_79)]).bind fun t69_80 =>
 (pr.append 42 128 70 r44.2.2 (getL r44.2.1 0) t69_80).bind fun t70_81 =>
 pr.fin none t70_81.2 [t70_81.1, (LV.int .i64 0)]) (none))) (
 (pr.load 42 true u25.2 t8_24.1).bind fun t36_85 =>
 (pr.call g id_interpreterref17_Head6 u25.2 [t36_85]).bind fun t37_86 =>
 (pr.call g id_interpreterref17_Room u25.2 [a1, t37_86]).bind fun t38_87 =>
 (pr.bin .eql t38_87 (LV.int .i64 0)).bind fun t40_90 =>
 condK t40_90 (
 pr.fin none u25.2 [LV.nils, (LV.int .i64 13)]) (
 (pr.nilT 42 10 u25.2).bind fun t10_93 =>
 (whileW (fun q94 : List LV × Slots =>
 (pr.fieldAddr 11 41 t8_24.1).bind fun t41_95 =>
 (pr.load 1 false q94.2 t41_95).bind fun t42_96 =>
 (pr.len true t42_96).bind fun t43_97 =>
 (pr.bin .gtr t43_97 t38_87).bind fun t45_99 =>
 condK t45_99 (
 (pr.load 42 true q94.2 t8_24.1).bind fun t46_100 =>
 (pr.alloc (LV.agg [(LV.int .i64 0), (LV.int .i64 0), (LV.int .i64 0), (LV.bytes [0, 0, 0, 0, 0, 0, 0, 0, 0, 0, 0, 0, 0, 0, 0, 0]), (LV.bytes [0, 0, 0, 0, 0, 0, 0, 0, 0, 0, 0, 0, 0, 0, 0, 0]), LV.nils, (LV.bool false), (LV.int .u32 0), (LV.int .i64 0), (LV.bool false), (LV.int .i64 0), (LV.str [])]) 11 q94.2).bind fun t11_101 =>
 (pr.store 42 true t11_101.2 t11_101.1 t46_100).bind fun u102 =>
 (pr.fieldAddr 11 41 t8_24.1).bind fun t47_103 =>
 (pr.load 1 false u102.2 t47_103).bind fun t48_104 =>
 (pr.slc 0 t48_104 none (some t38_87)).bind fun t50_106 =>
 (pr.fieldAddr 11 41 t11_101.1).bind fun t51_107 =>
 (pr.store 1 false u102.2 t51_107 t50_106).bind fun u108 =>
 (pr.fieldAddr 9 39 t11_101.1).bind fun t52_109 =>
 (pr.store 1 false u108.2 t52_109 (LV.bool true)).bind fun u110 =>
 (pr.load 42 true u110.2 t11_101.1).bind fun t54_112 =>
 (pr.bsl (LV.agg [(LV.int .i64 0), (LV.int .i64 0), (LV.int .i64 0), (LV.bytes [0, 0, 0, 0, 0, 0, 0, 0, 0, 0, 0, 0, 0, 0, 0, 0]), (LV.bytes [0, 0, 0, 0, 0, 0, 0, 0, 0, 0, 0, 0, 0, 0, 0, 0]), LV.nils, (LV.bool false), (LV.int .u32 0), (LV.int .i64 0), (LV.bool false), (LV.int .i64 0), (LV.str [])]) 1 [(0, t54_112)]).bind fun t55_113 =>
 (pr.append 42 128 56 u110.2 (getL q94.1 0) t55_113).bind fun t56_114 =>
 (pr.fieldAddr 8 38 t8_24.1).bind fun t57_116 =>
 (pr.load 1 false t56_114.2 t57_116).bind fun t58_117 =>
 (pr.bin .add t58_117 t38_87).bind fun t60_119 =>
 (pr.fieldAddr 8 38 t8_24.1).bind fun t61_120 =>
 (pr.store 1 false t56_114.2 t61_120 t60_119).bind fun u121 =>
 (pr.fieldAddr 11 41 t8_24.1).bind fun t62_122 =>
 (pr.load 1 false u121.2 t62_122).bind fun t63_123 =>
 (pr.slc 0 t63_123 (some t38_87) none).bind fun t65_125 =>
 (pr.fieldAddr 11 41 t8_24.1).bind fun t66_126 =>
 (pr.store 1 false u121.2 t66_126 t65_125).bind fun u127 =>
 pr.round t10_93.2 .normal [t56_114.1] u127.2) (
 pr.round t10_93.2 (.exit 0) [(getL q94.1 0)] q94.2)) ([t10_93.1], t10_93.2)).bind fun r94 =>
 exIf r94.1 (.exit 0) (
 (pr.load 42 true r94.2.2 t8_24.1).bind fun t68_129 =>
 (pr.bsl (LV.agg [(LV.int .i64 0), (LV.int .i64 0), (LV.int .i64 0), (LV.bytes [0, 0, 0, 0, 0, 0, 0, 0, 0, 0, 0, 0, 0, 0, 0, 0]), (LV.bytes [0, 0, 0, 0, 0, 0, 0, 0, 0, 0, 0, 0, 0, 0, 0, 0]), LV.nils, (LV.bool false), (LV.int .u32 0), (LV.int .i64 0), (LV.bool false), (LV.int .i64 0), (LV.str [])]) 1 [(0, t68_129)]).bind fun t69_130 =>
 (pr.append 42 128 70 r94.2.2 (getL r94.2.1 0) t69_130).bind fun t70_131 =>
 pr.fin none t70_131.2 [t70_131.1, (LV.int .i64 0)]) (none)))))
theorem F_interpreterref17_Cut6_eq (g : Call) (a0 : LV) (a1 : LV) (a2 : LV) : fnEv g c_interpreterref17_Cut6 [a0, a1, a2] none = F_interpreterref17_Cut6 g a0 a1 a2 := by kernel_rfl

/-- interpreter/interpreterref17.Head6 -/
noncomputable def F_interpreterref17_Head6 (g : Call) (a0 : LV) : Option (LV × Option LV) :=
 (pr.box a0).bind fun t1_0 =>
 (whileW (fun q4 : List LV × Slots =>
 (pr.fieldAddr 5 35 t1_0).bind fun t6_6 =>
 (pr.load 1 false q4.2 t6_6).bind fun t7_7 =>
 (pr.len false t7_7).bind fun t8_8 =>
 (pr.bin .lss (getL q4.1 1) t8_8).bind fun t9_9 =>
 condK t9_9 (
 (pr.bin .add (getL q4.1 0) (LV.int .i64 2)).bind fun t13_11 =>
 (pr.fieldAddr 5 35 t1_0).bind fun t14_12 =>
 (pr.load 1 false q4.2 t14_12).bind fun t15_13 =>
 (pr.idxAddr none 2 t15_13 (getL q4.1 1)).bind fun t17_15 =>
 (pr.fieldAddr 1 1 t17_15).bind fun t18_16 =>
 (pr.load 1 false q4.2 t18_16).bind fun t19_17 =>
 (pr.len true t19_17).bind fun t20_18 =>
 (pr.bin .add t13_11 t20_18).bind fun t21_19 =>
 (pr.bin .add (getL q4.1 1) (LV.int .i64 1)).bind fun t11_22 =>
 pr.round noSlots .normal [t21_19, t11_22] q4.2) (
 pr.round noSlots (.exit 0) [(getL q4.1 0), (getL q4.1 1)] q4.2)) ([(LV.int .i64 40), (LV.int .i64 0)], noSlots)).bind fun r4 =>
 exIf r4.1 (.exit 0) (
 (pr.fieldAddr 6 36 t1_0).bind fun t22_24 =>
 (pr.load 1 false r4.2.2 t22_24).bind fun t23_25 =>
 condK t23_25 (
 (pr.bin .add (getL r4.2.1 0) (LV.int .i64 8)).bind fun t25_27 =>
 pr.fin none r4.2.2 [t25_27]) (
 pr.fin none r4.2.2 [(getL r4.2.1 0)])) (none)
theorem F_interpreterref17_Head6_eq (g : Call) (a0 : LV) : fnEv g c_interpreterref17_Head6 [a0] none = F_interpreterref17_Head6 g a0 := by kernel_rfl

/-- interpreter/interpreterlaw17.same6 -/
noncomputable def F_interpreterlaw17_same6 (g : Call) (a0 : LV) (a1 : LV) : Option (LV × Option LV) :=
 (pr.box a0).bind fun t2_0 =>
 (pr.box a1).bind fun t3_1 =>
 (pr.fieldAddr 5 35 t2_0).bind fun t6_3 =>
 (pr.load 1 false noSlots t6_3).bind fun t7_4 =>
 (pr.len false t7_4).bind fun t8_5 =>
 (pr.fieldAddr 5 35 t3_1).bind fun t9_6 =>
 (pr.load 1 false noSlots t9_6).bind fun t10_7 =>
 (pr.len false t10_7).bind fun t11_8 =>
 (pr.bin .neq t8_5 t11_8).bind fun t12_9 =>
 condK t12_9 (
 pr.fin none noSlots [(LV.bool false)]) (
 (whileW (fun q12 : List LV × Slots =>
 (pr.fieldAddr 5 35 t2_0).bind fun t14_14 =>
 (pr.load 1 false q12.2 t14_14).bind fun t15_15 =>
 (pr.len false t15_15).bind fun t16_16 =>
 (pr.bin .lss (getL q12.1 1) t16_16).bind fun t17_17 =>
 condK t17_17 (
 (pr.fieldAddr 5 35 t2_0).bind fun t20_18 =>
 (pr.load 1 false q12.2 t20_18).bind fun t21_19 =>
 (pr.idxAddr none 2 t21_19 (getL q12.1 1)).bind fun t23_21 =>
 (pr.load 2 true q12.2 t23_21).bind fun t24_22 =>
 (pr.fieldAddr 5 35 t3_1).bind fun t25_23 =>
 (pr.load 1 false q12.2 t25_23).bind fun t26_24 =>
 (pr.idxAddr none 2 t26_24 (getL q12.1 1)).bind fun t28_26 =>
 (pr.load 2 true q12.2 t28_26).bind fun t29_27 =>
 (pr.eqS (Sh.agg [(Sh.int .i64), Sh.str]) true t24_22 t29_27).bind fun t30_28 =>
 condK t30_28 (
 pr.round noSlots .ret [(LV.bool false), (getL q12.1 1)] q12.2) (
 (pr.bin .add (getL q12.1 1) (LV.int .i64 1)).bind fun t19_31 =>
 pr.round noSlots .normal [(getL q12.1 0), t19_31] q12.2)) (
 pr.round noSlots (.exit 0) [(getL q12.1 0), (getL q12.1 1)] q12.2)) ([(LV.bool false), (LV.int .i64 0)], noSlots)).bind fun r12 =>
 exIf r12.1 (.exit 0) (
 (pr.fieldAddr 0 0 t2_0).bind fun t31_33 =>
 (pr.load 1 false r12.2.2 t31_33).bind fun t32_34 =>
 (pr.fieldAddr 0 0 t3_1).bind fun t33_35 =>
 (pr.load 1 false r12.2.2 t33_35).bind fun t34_36 =>
 (pr.bin .eql t32_34 t34_36).bind fun t35_37 =>
 (pr.guard t35_37 true).bind fun b39 =>
 (if b39 = true then pr.fieldAddr 1 1 t2_0 else some LV.undef).bind fun t37_39 =>
 (pr.guard t35_37 true).bind fun b40 =>
 (if b40 = true then pr.load 1 false r12.2.2 t37_39 else some LV.undef).bind fun t38_40 =>
 (pr.guard t35_37 true).bind fun b41 =>
 (if b41 = true then pr.fieldAddr 1 1 t3_1 else some LV.undef).bind fun t39_41 =>
 (pr.guard t35_37 true).bind fun b42 =>
 (if b42 = true then pr.load 1 false r12.2.2 t39_41 else some LV.undef).bind fun t40_42 =>
 (pr.guard t35_37 true).bind fun b43 =>
 (if b43 = true then pr.bin .eql t38_40 t40_42 else some LV.undef).bind fun t41_43 =>
 (pr.pick t35_37 t41_43 (LV.bool false)).bind fun t42_44 =>
 (pr.guard t42_44 true).bind fun b46 =>
 (if b46 = true then pr.fieldAddr 2 2 t2_0 else some LV.undef).bind fun t44_46 =>
 (pr.guard t42_44 true).bind fun b47 =>
 (if b47 = true then pr.load 1 false r12.2.2 t44_46 else some LV.undef).bind fun t45_47 =>
 (pr.guard t42_44 true).bind fun b48 =>
 (if b48 = true then pr.fieldAddr 2 2 t3_1 else some LV.undef).bind fun t46_48 =>
 (pr.guard t42_44 true).bind fun b49 =>
 (if b49 = true then pr.load 1 false r12.2.2 t46_48 else some LV.undef).bind fun t47_49 =>
 (pr.guard t42_44 true).bind fun b50 =>
 (if b50 = true then pr.bin .eql t45_47 t47_49 else some LV.undef).bind fun t48_50 =>
 (pr.pick t42_44 t48_50 (LV.bool false)).bind fun t49_51 =>
 (pr.guard t49_51 true).bind fun b53 =>
 (if b53 = true then pr.fieldAddr 3 3 t2_0 else some LV.undef).bind fun t51_53 =>
 (pr.guard t49_51 true).bind fun b54 =>
 (if b54 = true then pr.load 16 true r12.2.2 t51_53 else some LV.undef).bind fun t52_54 =>
 (pr.guard t49_51 true).bind fun b55 =>
 (if b55 = true then pr.fieldAddr 3 3 t3_1 else some LV.undef).bind fun t53_55 =>
 (pr.guard t49_51 true).bind fun b56 =>
 (if b56 = true then pr.load 16 true r12.2.2 t53_55 else some LV.undef).bind fun t54_56 =>
 (pr.guard t49_51 true).bind fun b57 =>
 (if b57 = true then pr.eqS (Sh.bytes 16) false t52_54 t54_56 else some LV.undef).bind fun t55_57 =>
 (pr.pick t49_51 t55_57 (LV.bool false)).bind fun t56_58 =>
 (pr.guard t56_58 true).bind fun b60 =>
 (if b60 = true then pr.fieldAddr 4 19 t2_0 else some LV.undef).bind fun t58_60 =>
 (pr.guard t56_58 true).bind fun b61 =>
 (if b61 = true then pr.load 16 true r12.2.2 t58_60 else some LV.undef).bind fun t59_61 =>
 (pr.guard t56_58 true).bind fun b62 =>
 (if b62 = true then pr.fieldAddr 4 19 t3_1 else some LV.undef).bind fun t60_62 =>
 (pr.guard t56_58 true).bind fun b63 =>
 (if b63 = true then pr.load 16 true r12.2.2 t60_62 else some LV.undef).bind fun t61_63 =>
 (pr.guard t56_58 true).bind fun b64 =>
 (if b64 = true then pr.eqS (Sh.bytes 16) false t59_61 t61_63 else some LV.undef).bind fun t62_64 =>
 (pr.pick t56_58 t62_64 (LV.bool false)).bind fun t63_65 =>
 (pr.guard t63_65 true).bind fun b67 =>
 (if b67 = true then pr.fieldAddr 6 36 t2_0 else some LV.undef).bind fun t65_67 =>
 (pr.guard t63_65 true).bind fun b68 =>
 (if b68 = true then pr.load 1 false r12.2.2 t65_67 else some LV.undef).bind fun t66_68 =>
 (pr.guard t63_65 true).bind fun b69 =>
 (if b69 = true then pr.fieldAddr 6 36 t3_1 else some LV.undef).bind fun t67_69 =>
 (pr.guard t63_65 true).bind fun b70 =>
 (if b70 = true then pr.load 1 false r12.2.2 t67_69 else some LV.undef).bind fun t68_70 =>
 (pr.guard t63_65 true).bind fun b71 =>
 (if b71 = true then pr.eqB false t66_68 t68_70 else some LV.undef).bind fun t69_71 =>
 (pr.pick t63_65 t69_71 (LV.bool false)).bind fun t70_72 =>
 (pr.guard t70_72 true).bind fun b74 =>
 (if b74 = true then pr.fieldAddr 7 37 t2_0 else some LV.undef).bind fun t72_74 =>
 (pr.guard t70_72 true).bind fun b75 =>
 (if b75 = true then pr.load 1 false r12.2.2 t72_74 else some LV.undef).bind fun t73_75 =>
 (pr.guard t70_72 true).bind fun b76 =>
 (if b76 = true then pr.fieldAddr 7 37 t3_1 else some LV.undef).bind fun t74_76 =>
 (pr.guard t70_72 true).bind fun b77 =>
 (if b77 = true then pr.load 1 false r12.2.2 t74_76 else some LV.undef).bind fun t75_77 =>
 (pr.guard t70_72 true).bind fun b78 =>
 (if b78 = true then pr.bin .eql t73_75 t75_77 else some LV.undef).bind fun t76_78 =>
 (pr.pick t70_72 t76_78 (LV.bool false)).bind fun t77_79 =>
 (pr.guard t77_79 true).bind fun b81 =>
 (if b81 = true then pr.fieldAddr 8 38 t2_0 else some LV.undef).bind fun t79_81 =>
 (pr.guard t77_79 true).bind fun b82 =>
 (if b82 = true then pr.load 1 false r12.2.2 t79_81 else some LV.undef).bind fun t80_82 =>
 (pr.guard t77_79 true).bind fun b83 =>
 (if b83 = true then pr.fieldAddr 8 38 t3_1 else some LV.undef).bind fun t81_83 =>
 (pr.guard t77_79 true).bind fun b84 =>
 (if b84 = true then pr.load 1 false r12.2.2 t81_83 else some LV.undef).bind fun t82_84 =>
 (pr.guard t77_79 true).bind fun b85 =>
 (if b85 = true then pr.bin .eql t80_82 t82_84 else some LV.undef).bind fun t83_85 =>
 (pr.pick t77_79 t83_85 (LV.bool false)).bind fun t84_86 =>
 (pr.guard t84_86 true).bind fun b88 =>
 (if b88 = true then pr.fieldAddr 9 39 t2_0 else some LV.undef).bind fun t86_88 =>
 (pr.guard t84_86 true).bind fun b89 =>
 (if b89 = true then pr.load 1 false r12.2.2 t86_88 else some LV.undef).bind fun t87_89 =>
 (pr.guard t84_86 true).bind fun b90 =>
 (if b90 = true then pr.fieldAddr 9 39 t3_1 else some LV.undef).bind fun t88_90 =>
 (pr.guard t84_86 true).bind fun b91 =>
 (if b91 = true then pr.load 1 false r12.2.2 t88_90 else some LV.undef).bind fun t89_91 =>
 (pr.guard t84_86 true).bind fun b92 =>
 (if b92 = true then pr.eqB false t87_89 t89_91 else some LV.undef).bind fun t90_92 =>
 (pr.pick t84_86 t90_92 (LV.bool false)).bind fun t91_93 =>
 (pr.guard t91_93 true).bind fun b95 =>
 (if b95 = true then pr.fieldAddr 10 40 t2_0 else some LV.undef).bind fun t93_95 =>
 (pr.guard t91_93 true).bind fun b96 =>
 (if b96 = true then pr.load 1 false r12.2.2 t93_95 else some LV.undef).bind fun t94_96 =>
 (pr.guard t91_93 true).bind fun b97 =>
 (if b97 = true then pr.fieldAddr 10 40 t3_1 else some LV.undef).bind fun t95_97 =>
 (pr.guard t91_93 true).bind fun b98 =>
 (if b98 = true then pr.load 1 false r12.2.2 t95_97 else some LV.undef).bind fun t96_98 =>
 (pr.guard t91_93 true).bind fun b99 =>
 (if b99 = true then pr.bin .eql t94_96 t96_98 else some LV.undef).bind fun t97_99 =>
 (pr.pick t91_93 t97_99 (LV.bool false)).bind fun t98_100 =>
 (pr.guard t98_100 true).bind fun b102 =>
 (if b102 = true then pr.fieldAddr 11 41 t2_0 else some LV.undef).bind fun t100_102 =>
 (pr.guard t98_100 true).bind fun b103 =>
 (if b103 = true then pr.load 1 false r12.2.2 t100_102 else some LV.undef).bind fun t101_103 =>
 (pr.guard t98_100 true).bind fun b104 =>
 (if b104 = true then pr.fieldAddr 11 41 t3_1 else some LV.undef).bind fun t102_104 =>
 (pr.guard t98_100 true).bind fun b105 =>
 (if b105 = true then pr.load 1 false r12.2.2 t102_104 else some LV.undef).bind fun t103_105 =>
 (pr.guard t98_100 true).bind fun b106 =>
 (if b106 = true then pr.bin .eql t101_103 t103_105 else some LV.undef).bind fun t104_106 =>
 (pr.pick t98_100 t104_106 (LV.bool false)).bind fun t105_107 =>
 pr.fin none r12.2.2 [t105_107]) (exIf r12.1 .ret (
 pr.fin none r12.2.2 [(getL r12.2.1 0)]) (none)))
theorem F_interpreterlaw17_same6_eq (g : Call) (a0 : LV) (a1 : LV) : fnEv g c_interpreterlaw17_same6 [a0, a1] none = F_interpreterlaw17_same6 g a0 a1 := by kernel_rfl

/-- interpreter/interpreterlaw17.four -/
noncomputable def F_interpreterlaw17_four (g : Call) (a0 : LV) : Option (LV × Option LV) :=
 (pr.alloc (LV.agg [(LV.int .i64 0), (LV.int .i64 0), (LV.int .i64 0), (LV.int .i64 0), (LV.int .i64 0), (LV.bool false), (LV.bool false), (LV.bytes [0, 0, 0, 0]), (LV.bytes [0, 0, 0, 0]), (LV.str []), (LV.str [])]) 2 noSlots).bind fun t2_0 =>
 (pr.parts (LV.bytes [0, 0, 0, 0]) [(0, (LV.int .u8 1)), (1, (LV.int .u8 0)), (2, (LV.int .u8 0)), (3, (LV.int .u8 1))]).bind fun t3_1 =>
 (pr.parts (LV.bytes [0, 0, 0, 0]) [(0, (LV.int .u8 1)), (1, (LV.int .u8 0)), (2, (LV.int .u8 0)), (3, (LV.int .u8 2))]).bind fun t4_2 =>
 (pr.mkSl 6 t2_0.2 a0 a0).bind fun t6_4 =>
 (pr.b2s t6_4.2 t6_4.1).bind fun t7_5 =>
 (pr.parts (LV.agg [(LV.int .i64 0), (LV.int .i64 0), (LV.int .i64 0), (LV.int .i64 0), (LV.int .i64 0), (LV.bool false), (LV.bool false), (LV.bytes [0, 0, 0, 0]), (LV.bytes [0, 0, 0, 0]), (LV.str []), (LV.str [])]) [(2, (LV.int .i64 9)), (3, (LV.int .i64 17)), (7, t3_1), (8, t4_2), (10, t7_5)]).bind fun t8_6 =>
 (pr.store 17 true t6_4.2 t2_0.1 t8_6).bind fun u7 =>
 (pr.load 17 true u7.2 t2_0.1).bind fun v8 =>
 pr.fin none u7.2 [v8]
theorem F_interpreterlaw17_four_eq (g : Call) (a0 : LV) : fnEv g c_interpreterlaw17_four [a0] none = F_interpreterlaw17_four g a0 := by kernel_rfl

/-- interpreter/interpreterlaw17.six -/
noncomputable def F_interpreterlaw17_six (g : Call) (a0 : LV) : Option (LV × Option LV) :=
 (pr.alloc (LV.agg [(LV.int .i64 0), (LV.int .i64 0), (LV.int .i64 0), (LV.bytes [0, 0, 0, 0, 0, 0, 0, 0, 0, 0, 0, 0, 0, 0, 0, 0]), (LV.bytes [0, 0, 0, 0, 0, 0, 0, 0, 0, 0, 0, 0, 0, 0, 0, 0]), LV.nils, (LV.bool false), (LV.int .u32 0), (LV.int .i64 0), (LV.bool false), (LV.int .i64 0), (LV.str [])]) 2 noSlots).bind fun t2_0 =>
 (pr.parts (LV.bytes [0, 0, 0, 0, 0, 0, 0, 0, 0, 0, 0, 0, 0, 0, 0, 0]) [(0, (LV.int .u8 1))]).bind fun t3_1 =>
 (pr.parts (LV.bytes [0, 0, 0, 0, 0, 0, 0, 0, 0, 0, 0, 0, 0, 0, 0, 0]) [(0, (LV.int .u8 2))]).bind fun t4_2 =>
 (pr.mkSl 6 t2_0.2 a0 a0).bind fun t6_4 =>
 (pr.b2s t6_4.2 t6_4.1).bind fun t7_5 =>
 (pr.parts (LV.agg [(LV.int .i64 0), (LV.int .i64 0), (LV.int .i64 0), (LV.bytes [0, 0, 0, 0, 0, 0, 0, 0, 0, 0, 0, 0, 0, 0, 0, 0]), (LV.bytes [0, 0, 0, 0, 0, 0, 0, 0, 0, 0, 0, 0, 0, 0, 0, 0]), LV.nils, (LV.bool false), (LV.int .u32 0), (LV.int .i64 0), (LV.bool false), (LV.int .i64 0), (LV.str [])]) [(2, (LV.int .i64 9)), (10, (LV.int .i64 17)), (3, t3_1), (4, t4_2), (11, t7_5)]).bind fun t8_6 =>
 (pr.store 42 true t6_4.2 t2_0.1 t8_6).bind fun u7 =>
 (pr.load 42 true u7.2 t2_0.1).bind fun v8 =>
 pr.fin none u7.2 [v8]
theorem F_interpreterlaw17_six_eq (g : Call) (a0 : LV) : fnEv g c_interpreterlaw17_six [a0] none = F_interpreterlaw17_six g a0 := by kernel_rfl

/-- interpreter/ip4.Parse -/
noncomputable def F_ip4_Parse (g : Call) (a0 : LV) : Option (LV × Option LV) :=
 (pr.box a0).bind fun t1_0 =>
 (pr.alloc (LV.agg [(LV.int .i64 0), (LV.int .i64 0), (LV.int .i64 0), (LV.int .i64 0), (LV.int .i64 0), (LV.bool false), (LV.bool false), (LV.bytes [0, 0, 0, 0]), (LV.bytes [0, 0, 0, 0]), (LV.str []), (LV.str [])]) 2 noSlots).bind fun t2_1 =>
 (pr.alloc (LV.agg [(LV.int .i64 0), (LV.int .i64 0), (LV.int .i64 0), (LV.int .i64 0), (LV.int .i64 0), (LV.bool false), (LV.bool false), (LV.bytes [0, 0, 0, 0]), (LV.bytes [0, 0, 0, 0]), (LV.str []), (LV.str [])]) 4 t2_1.2).bind fun t4_3 =>
 (pr.load 1 false t4_3.2 t1_0).bind fun t10_4 =>
 (pr.len true t10_4).bind fun t11_5 =>
 (pr.bin .lss t11_5 (LV.int .i64 20)).bind fun t12_6 =>
 condK t12_6 (
 (pr.load 17 true t4_3.2 t4_3.1).bind fun t13_7 =>
 (pr.call g id_ip4_fault t4_3.2 [(LV.int .i64 7)]).bind fun t14_8 =>
 (pr.store 17 true t4_3.2 t2_1.1 t13_7).bind fun u9 =>
 (pr.load 17 true u9.2 t2_1.1).bind fun v11 =>
 pr.fin none u9.2 [v11, t14_8]) (
 (pr.load 1 false t4_3.2 t1_0).bind fun t15_12 =>
 (pr.idxStr t15_12 (LV.int .i64 0)).bind fun t16_13 =>
 (pr.bin .and t16_13 (LV.int .u8 15)).bind fun t17_14 =>
 (pr.conv .i64 t17_14).bind fun t18_15 =>
 (pr.bin .mul t18_15 (LV.int .i64 4)).bind fun t19_16 =>
 (pr.load 1 false t4_3.2 t1_0).bind fun t21_18 =>
 (pr.idxStr t21_18 (LV.int .i64 0)).bind fun t22_19 =>
 (pr.bin .shr t22_19 (LV.int .u64 4)).bind fun t23_20 =>
 (pr.bin .neq t23_20 (LV.int .u8 4)).bind fun t24_21 =>
 (pr.guard t24_21 false).bind fun b23 =>
 (if b23 = true then some t19_16 else some LV.undef).bind fun t26_23 =>
 (pr.guard t24_21 false).bind fun b24 =>
 (if b24 = true then pr.bin .lss t26_23 (LV.int .i64 20) else some LV.undef).bind fun t27_24 =>
 (pr.pick t24_21 (LV.bool true) t27_24).bind fun t28_25 =>
 condK t28_25 (
 (pr.load 17 true t4_3.2 t4_3.1).bind fun t29_27 =>
 (pr.call g id_ip4_fault t4_3.2 [(LV.int .i64 8)]).bind fun t30_28 =>
 (pr.store 17 true t4_3.2 t2_1.1 t29_27).bind fun u29 =>
 (pr.load 17 true u29.2 t2_1.1).bind fun v31 =>
 pr.fin none u29.2 [v31, t30_28]) (
 (pr.load 1 false t4_3.2 t1_0).bind fun t32_32 =>
 (pr.len true t32_32).bind fun t33_33 =>
 (pr.bin .lss t33_33 t19_16).bind fun t35_35 =>
 condK t35_35 (
 (pr.load 17 true t4_3.2 t4_3.1).bind fun t36_37 =>
 (pr.call g id_ip4_fault t4_3.2 [(LV.int .i64 7)]).bind fun t37_38 =>
 (pr.store 17 true t4_3.2 t2_1.1 t36_37).bind fun u39 =>
 (pr.load 17 true u39.2 t2_1.1).bind fun v41 =>
 pr.fin none u39.2 [v41, t37_38]) (
 (pr.load 1 false t4_3.2 t1_0).bind fun t39_42 =>
 (pr.slc 0 t39_42 none (some t19_16)).bind fun t41_44 =>
 (pr.bsl (LV.str []) 1 [(0, t41_44)]).bind fun t42_45 =>
 (pr.call g id_sum_Right t4_3.2 [t42_45]).bind fun t43_46 =>
 (pr.un .not t43_46).bind fun t44_47 =>
 condK t44_47 (
 (pr.load 17 true t4_3.2 t4_3.1).bind fun t45_49 =>
 (pr.call g id_ip4_fault t4_3.2 [(LV.int .i64 9)]).bind fun t46_50 =>
 (pr.store 17 true t4_3.2 t2_1.1 t45_49).bind fun u51 =>
 (pr.load 17 true u51.2 t2_1.1).bind fun v53 =>
 pr.fin none u51.2 [v53, t46_50]) (
 (pr.mkFunc id_ip4_Parse_1 [t1_0]).bind fun t47_54 =>
 (pr.callv g t4_3.2 t47_54 [(LV.int .i64 2)]).bind fun t49_57 =>
 (pr.callv g t4_3.2 t47_54 [(LV.int .i64 6)]).bind fun t51_59 =>
 (pr.bin .lss t49_57 t19_16).bind fun t55_64 =>
 condK t55_64 (
 (pr.load 17 true t4_3.2 t4_3.1).bind fun t56_66 =>
 (pr.call g id_ip4_fault t4_3.2 [(LV.int .i64 8)]).bind fun t57_67 =>
 (pr.store 17 true t4_3.2 t2_1.1 t56_66).bind fun u68 =>
 (pr.load 17 true u68.2 t2_1.1).bind fun v70 =>
 pr.fin none u68.2 [v70, t57_67]) (
 (pr.load 1 false t4_3.2 t1_0).bind fun t59_71 =>
 (pr.len true t59_71).bind fun t60_72 =>
 (pr.bin .lss t60_72 t49_57).bind fun t62_74 =>
 condK t62_74 (
 (pr.load 17 true t4_3.2 t4_3.1).bind fun t63_76 =>
 (pr.call g id_ip4_fault t4_3.2 [(LV.int .i64 7)]).bind fun t64_77 =>
 (pr.store 17 true t4_3.2 t2_1.1 t63_76).bind fun u78 =>
 (pr.load 17 true u78.2 t2_1.1).bind fun v80 =>
 pr.fin none u78.2 [v80, t64_77]) (
 (pr.load 1 false t4_3.2 t1_0).bind fun t65_81 =>
 (pr.idxStr t65_81 (LV.int .i64 1)).bind fun t66_82 =>
 (pr.conv .i64 t66_82).bind fun t67_83 =>
 (pr.callv g t4_3.2 t47_54 [(LV.int .i64 4)]).bind fun t69_85 =>
 (pr.load 1 false t4_3.2 t1_0).bind fun t70_86 =>
 (pr.idxStr t70_86 (LV.int .i64 8)).bind fun t71_87 =>
 (pr.conv .i64 t71_87).bind fun t72_88 =>
 (pr.load 1 false t4_3.2 t1_0).bind fun t73_89 =>
 (pr.idxStr t73_89 (LV.int .i64 9)).bind fun t74_90 =>
 (pr.conv .i64 t74_90).bind fun t75_91 =>
 (pr.bin .and t51_59 (LV.int .i64 8191)).bind fun t77_93 =>
 (pr.bin .mul t77_93 (LV.int .i64 8)).bind fun t78_94 =>
 (pr.bin .and t51_59 (LV.int .i64 16384)).bind fun t80_96 =>
 (pr.bin .neq t80_96 (LV.int .i64 0)).bind fun t81_97 =>
 (pr.bin .and t51_59 (LV.int .i64 8192)).bind fun t83_99 =>
 (pr.bin .neq t83_99 (LV.int .i64 0)).bind fun t84_100 =>
 (pr.load 1 false t4_3.2 t1_0).bind fun t85_101 =>
 (pr.slc 0 t85_101 (some (LV.int .i64 20)) (some t19_16)).bind fun t87_103 =>
 (pr.load 1 false t4_3.2 t1_0).bind fun t88_104 =>
 (pr.slc 0 t88_104 (some t19_16) (some t49_57)).bind fun t91_107 =>
 (pr.parts (LV.agg [(LV.int .i64 0), (LV.int .i64 0), (LV.int .i64 0), (LV.int .i64 0), (LV.int .i64 0), (LV.bool false), (LV.bool false), (LV.bytes [0, 0, 0, 0]), (LV.bytes [0, 0, 0, 0]), (LV.str []), (LV.str [])]) [(0, t67_83), (1, t69_85), (2, t72_88), (3, t75_91), (4, t78_94), (5, t81_97), (6, t84_100), (9, t87_103), (10, t91_107)]).bind fun t92_108 =>
 (pr.alloc (LV.agg [(LV.int .i64 0), (LV.int .i64 0), (LV.int .i64 0), (LV.int .i64 0), (LV.int .i64 0), (LV.bool false), (LV.bool false), (LV.bytes [0, 0, 0, 0]), (LV.bytes [0, 0, 0, 0]), (LV.str []), (LV.str [])]) 9 t4_3.2).bind fun t9_109 =>
 (pr.store 17 true t9_109.2 t9_109.1 t92_108).bind fun u110 =>
 (pr.fieldAddr 7 7 t9_109.1).bind fun t93_111 =>
 (pr.slcArr 4 u110.2 t93_111 none none).bind fun t94_112 =>
 (pr.load 1 false u110.2 t1_0).bind fun t95_113 =>
 (pr.slc 0 t95_113 (some (LV.int .i64 12)) none).bind fun t96_114 =>
 (pr.copy u110.2 t94_112 t96_114).bind fun t97_115 =>
 (pr.fieldAddr 8 11 t9_109.1).bind fun t98_116 =>
 (pr.slcArr 4 t97_115.2 t98_116 none none).bind fun t99_117 =>
 (pr.load 1 false t97_115.2 t1_0).bind fun t100_118 =>
 (pr.slc 0 t100_118 (some (LV.int .i64 16)) none).bind fun t101_119 =>
 (pr.copy t97_115.2 t99_117 t101_119).bind fun t102_120 =>
 (pr.bin .and t51_59 (LV.int .i64 32768)).bind fun t104_122 =>
 (pr.bin .neq t104_122 (LV.int .i64 0)).bind fun t105_123 =>
 (pr.guard t105_123 false).bind fun b125 =>
 (if b125 = true then pr.load 17 true t102_120.2 t9_109.1 else some LV.undef).bind fun t107_125 =>
 (pr.guard t105_123 false).bind fun b126 =>
 (if b126 = true then pr.call g id_ip4_why t102_120.2 [t107_125] else some LV.undef).bind fun t108_126 =>
 (pr.guard t105_123 false).bind fun b127 =>
 (if b127 = true then pr.bin .neq t108_126 (LV.int .i64 0) else some LV.undef).bind fun t109_127 =>
 (pr.pick t105_123 (LV.bool true) t109_127).bind fun t110_128 =>
 condK t110_128 (
 (pr.load 17 true t102_120.2 t4_3.1).bind fun t111_129 =>
 (pr.call g id_ip4_fault t102_120.2 [(LV.int .i64 8)]).bind fun t112_130 =>
 (pr.store 17 true t102_120.2 t2_1.1 t111_129).bind fun u131 =>
 (pr.load 17 true u131.2 t2_1.1).bind fun v133 =>
 pr.fin none u131.2 [v133, t112_130]) (
 (pr.load 17 true t102_120.2 t9_109.1).bind fun t113_134 =>
 (pr.store 17 true t102_120.2 t2_1.1 t113_134).bind fun u135 =>
 (pr.load 17 true u135.2 t2_1.1).bind fun v137 =>
 pr.fin none u135.2 [v137, LV.nili])))))))
theorem F_ip4_Parse_eq (g : Call) (a0 : LV) : fnEv g c_ip4_Parse [a0] none = F_ip4_Parse g a0 := by kernel_rfl

/-- interpreter/ip6.Parse -/
noncomputable def F_ip6_Parse (g : Call) (a0 : LV) : Option (LV × Option LV) :=
 (pr.alloc (LV.agg [(LV.int .i64 0), (LV.int .i64 0), (LV.int .i64 0), (LV.bytes [0, 0, 0, 0, 0, 0, 0, 0, 0, 0, 0, 0, 0, 0, 0, 0]), (LV.bytes [0, 0, 0, 0, 0, 0, 0, 0, 0, 0, 0, 0, 0, 0, 0, 0]), LV.nils, (LV.bool false), (LV.int .u32 0), (LV.int .i64 0), (LV.bool false), (LV.int .i64 0), (LV.str [])]) 2 noSlots).bind fun t2_0 =>
 (pr.alloc (LV.agg [(LV.int .i64 0), (LV.int .i64 0), (LV.int .i64 0), (LV.bytes [0, 0, 0, 0, 0, 0, 0, 0, 0, 0, 0, 0, 0, 0, 0, 0]), (LV.bytes [0, 0, 0, 0, 0, 0, 0, 0, 0, 0, 0, 0, 0, 0, 0, 0]), LV.nils, (LV.bool false), (LV.int .u32 0), (LV.int .i64 0), (LV.bool false), (LV.int .i64 0), (LV.str [])]) 4 t2_0.2).bind fun t4_2 =>
 (pr.len true a0).bind fun t14_4 =>
 (pr.bin .lss t14_4 (LV.int .i64 40)).bind fun t15_5 =>
 condK t15_5 (
 (pr.load 42 true t4_2.2 t4_2.1).bind fun t16_6 =>
 (pr.call g id_ip6_fault t4_2.2 [(LV.int .i64 7)]).bind fun t17_7 =>
 (pr.store 42 true t4_2.2 t2_0.1 t16_6).bind fun u8 =>
 (pr.load 42 true u8.2 t2_0.1).bind fun v10 =>
 pr.fin none u8.2 [v10, t17_7]) (
 (pr.idxStr a0 (LV.int .i64 0)).bind fun t19_12 =>
 (pr.bin .shr t19_12 (LV.int .u64 4)).bind fun t20_13 =>
 (pr.bin .neq t20_13 (LV.int .u8 6)).bind fun t21_14 =>
 condK t21_14 (
 (pr.load 42 true t4_2.2 t4_2.1).bind fun t22_15 =>
 (pr.call g id_ip6_fault t4_2.2 [(LV.int .i64 8)]).bind fun t23_16 =>
 (pr.store 42 true t4_2.2 t2_0.1 t22_15).bind fun u17 =>
 (pr.load 42 true u17.2 t2_0.1).bind fun v19 =>
 pr.fin none u17.2 [v19, t23_16]) (
 (pr.idxStr a0 (LV.int .i64 4)).bind fun t25_21 =>
 (pr.conv .i64 t25_21).bind fun t26_22 =>
 (pr.bin .shl t26_22 (LV.int .u64 8)).bind fun t27_23 =>
 (pr.idxStr a0 (LV.int .i64 5)).bind fun t29_25 =>
 (pr.conv .i64 t29_25).bind fun t30_26 =>
 (pr.bin .or t27_23 t30_26).bind fun t31_27 =>
 (pr.len true a0).bind fun t33_30 =>
 (pr.bin .add (LV.int .i64 40) t31_27).bind fun t35_32 =>
 (pr.bin .lss t33_30 t35_32).bind fun t36_33 =>
 condK t36_33 (
 (pr.load 42 true t4_2.2 t4_2.1).bind fun t37_34 =>
 (pr.call g id_ip6_fault t4_2.2 [(LV.int .i64 7)]).bind fun t38_35 =>
 (pr.store 42 true t4_2.2 t2_0.1 t37_34).bind fun u36 =>
 (pr.load 42 true u36.2 t2_0.1).bind fun v38 =>
 pr.fin none u36.2 [v38, t38_35]) (
 (pr.callFr g id_num_New 41 t4_2.2 [a0]).bind fun t41_40 =>
 (pr.callRw g id_num_Reader_U32 t41_40.2 [t41_40.1]).bind fun t42_41 =>
 (pr.extract t42_41.1 0).bind fun t43_43 =>
 (pr.extract t42_41.1 1).bind fun t44_44 =>
 (pr.bin .shr t43_43 (LV.int .u64 20)).bind fun t46_48 =>
 (pr.bin .and t46_48 (LV.int .i64 255)).bind fun t47_49 =>
 (pr.bin .and t43_43 (LV.int .i64 1048575)).bind fun t49_51 =>
 (pr.idxStr a0 (LV.int .i64 7)).bind fun t51_53 =>
 (pr.conv .i64 t51_53).bind fun t52_54 =>
 (pr.parts (LV.agg [(LV.int .i64 0), (LV.int .i64 0), (LV.int .i64 0), (LV.bytes [0, 0, 0, 0, 0, 0, 0, 0, 0, 0, 0, 0, 0, 0, 0, 0]), (LV.bytes [0, 0, 0, 0, 0, 0, 0, 0, 0, 0, 0, 0, 0, 0, 0, 0]), LV.nils, (LV.bool false), (LV.int .u32 0), (LV.int .i64 0), (LV.bool false), (LV.int .i64 0), (LV.str [])]) [(0, t47_49), (1, t49_51), (2, t52_54)]).bind fun t53_55 =>
 (pr.alloc (LV.agg [(LV.int .i64 0), (LV.int .i64 0), (LV.int .i64 0), (LV.bytes [0, 0, 0, 0, 0, 0, 0, 0, 0, 0, 0, 0, 0, 0, 0, 0]), (LV.bytes [0, 0, 0, 0, 0, 0, 0, 0, 0, 0, 0, 0, 0, 0, 0, 0]), LV.nils, (LV.bool false), (LV.int .u32 0), (LV.int .i64 0), (LV.bool false), (LV.int .i64 0), (LV.str [])]) 8 t42_41.2).bind fun t8_56 =>
 (pr.store 42 true t8_56.2 t8_56.1 t53_55).bind fun u57 =>
 (pr.fieldAddr 3 3 t8_56.1).bind fun t54_58 =>
 (pr.slcArr 16 u57.2 t54_58 none none).bind fun t55_59 =>
 (pr.slc 0 a0 (some (LV.int .i64 8)) none).bind fun t57_61 =>
 (pr.copy u57.2 t55_59 t57_61).bind fun t58_62 =>
 (pr.fieldAddr 4 19 t8_56.1).bind fun t59_63 =>
 (pr.slcArr 16 t58_62.2 t59_63 none none).bind fun t60_64 =>
 (pr.slc 0 a0 (some (LV.int .i64 24)) none).bind fun t62_66 =>
 (pr.copy t58_62.2 t60_64 t62_66).bind fun t63_67 =>
 (pr.idxStr a0 (LV.int .i64 6)).bind fun t66_70 =>
 (pr.conv .i64 t66_70).bind fun t67_71 =>
 (pr.bin .add (LV.int .i64 40) t31_27).bind fun t70_74 =>
 (pr.slc 0 a0 (some (LV.int .i64 40)) (some t70_74)).bind fun t71_75 =>
 (pr.call g id_ip6_Chain t63_67.2 [t67_71, t71_75]).bind fun t72_76 =>
 (pr.extract t72_76 0).bind fun t73_78 =>
 (pr.extract t72_76 1).bind fun t74_79 =>
 (pr.extract t72_76 2).bind fun t75_80 =>
 (pr.extract t72_76 3).bind fun t76_81 =>
 (pr.fieldAddr 5 35 t8_56.1).bind fun t77_82 =>
 (pr.store 1 false t63_67.2 t77_82 t73_78).bind fun u83 =>
 (pr.fieldAddr 10 40 t8_56.1).bind fun t78_84 =>
 (pr.store 1 false u83.2 t78_84 t74_79).bind fun u85 =>
 (pr.fieldAddr 11 41 t8_56.1).bind fun t79_86 =>
 (pr.store 1 false u85.2 t79_86 t75_80).bind fun u87 =>
 (pr.eqNil 1 true t76_81).bind fun t81_90 =>
 condK t81_90 (
 (pr.load 42 true u87.2 t4_2.1).bind fun t82_91 =>
 (pr.store 42 true u87.2 t2_0.1 t82_91).bind fun u93 =>
 (pr.load 42 true u93.2 t2_0.1).bind fun v95 =>
 pr.fin none u93.2 [v95, t76_81]) (
 (pr.fieldAddr 10 40 t8_56.1).bind fun t84_96 =>
 (pr.load 1 false u87.2 t84_96).bind fun t85_97 =>
 (pr.bin .neq t85_97 (LV.int .i64 44)).bind fun t86_98 =>
 condK t86_98 (
 (pr.load 42 true u87.2 t8_56.1).bind fun t87_99 =>
 (pr.store 42 true u87.2 t2_0.1 t87_99).bind fun u100 =>
 (pr.load 42 true u100.2 t2_0.1).bind fun v102 =>
 pr.fin none u100.2 [v102, LV.nili]) (
 (pr.fieldAddr 11 41 t8_56.1).bind fun t88_103 =>
 (pr.load 1 false u87.2 t88_103).bind fun t89_104 =>
 (pr.len true t89_104).bind fun t90_105 =>
 (pr.bin .lss t90_105 (LV.int .i64 8)).bind fun t91_106 =>
 condK t91_106 (
 (pr.load 42 true u87.2 t4_2.1).bind fun t92_107 =>
 (pr.call g id_ip6_fault u87.2 [(LV.int .i64 7)]).bind fun t93_108 =>
 (pr.store 42 true u87.2 t2_0.1 t92_107).bind fun u109 =>
 (pr.load 42 true u109.2 t2_0.1).bind fun v111 =>
 pr.fin none u109.2 [v111, t93_108]) (
 (pr.fieldAddr 11 41 t8_56.1).bind fun t94_112 =>
 (pr.load 1 false u87.2 t94_112).bind fun t95_113 =>
 (pr.idxStr t95_113 (LV.int .i64 2)).bind fun t96_114 =>
 (pr.conv .i64 t96_114).bind fun t97_115 =>
 (pr.bin .shl t97_115 (LV.int .u64 8)).bind fun t98_116 =>
 (pr.fieldAddr 11 41 t8_56.1).bind fun t99_117 =>
 (pr.load 1 false u87.2 t99_117).bind fun t100_118 =>
 (pr.idxStr t100_118 (LV.int .i64 3)).bind fun t101_119 =>
 (pr.conv .i64 t101_119).bind fun t102_120 =>
 (pr.bin .or t98_116 t102_120).bind fun t103_121 =>
 (pr.fieldAddr 11 41 t8_56.1).bind fun t105_123 =>
 (pr.load 1 false u87.2 t105_123).bind fun t106_124 =>
 (pr.slc 0 t106_124 (some (LV.int .i64 4)) none).bind fun t107_125 =>
 (pr.callFr g id_num_New 108 u87.2 [t107_125]).bind fun t108_126 =>
 (pr.callRw g id_num_Reader_U32 t108_126.2 [t108_126.1]).bind fun t109_127 =>
 (pr.extract t109_127.1 0).bind fun t110_129 =>
 (pr.extract t109_127.1 1).bind fun t111_130 =>
 (pr.conv .u32 t110_129).bind fun t113_134 =>
 (pr.bin .andNot t103_121 (LV.int .i64 7)).bind fun t115_136 =>
 (pr.bin .and t103_121 (LV.int .i64 1)).bind fun t117_138 =>
 (pr.bin .neq t117_138 (LV.int .i64 0)).bind fun t118_139 =>
 (pr.fieldAddr 11 41 t8_56.1).bind fun t119_140 =>
 (pr.load 1 false t109_127.2 t119_140).bind fun t120_141 =>
 (pr.idxStr t120_141 (LV.int .i64 0)).bind fun t121_142 =>
 (pr.conv .i64 t121_142).bind fun t122_143 =>
 (pr.fieldAddr 11 41 t8_56.1).bind fun t123_144 =>
 (pr.load 1 false t109_127.2 t123_144).bind fun t124_145 =>
 (pr.slc 0 t124_145 (some (LV.int .i64 8)) none).bind fun t125_146 =>
 (pr.fieldAddr 6 36 t8_56.1).bind fun t126_147 =>
 (pr.store 1 false t109_127.2 t126_147 (LV.bool true)).bind fun u148 =>
 (pr.fieldAddr 7 37 t8_56.1).bind fun t127_149 =>
 (pr.store 1 false u148.2 t127_149 t113_134).bind fun u150 =>
 (pr.fieldAddr 8 38 t8_56.1).bind fun t128_151 =>
 (pr.store 1 false u150.2 t128_151 t115_136).bind fun u152 =>
 (pr.fieldAddr 9 39 t8_56.1).bind fun t129_153 =>
 (pr.store 1 false u152.2 t129_153 t118_139).bind fun u154 =>
 (pr.fieldAddr 10 40 t8_56.1).bind fun t130_155 =>
 (pr.store 1 false u154.2 t130_155 t122_143).bind fun u156 =>
 (pr.fieldAddr 11 41 t8_56.1).bind fun t131_157 =>
 (pr.store 1 false u156.2 t131_157 t125_146).bind fun u158 =>
 (pr.load 42 true u158.2 t8_56.1).bind fun t132_159 =>
 (pr.call g id_ip6_pieced u158.2 [t132_159]).bind fun t133_160 =>
 (pr.un .not t133_160).bind fun t134_161 =>
 (pr.guard t134_161 false).bind fun b163 =>
 (if b163 = true then pr.fieldAddr 11 41 t8_56.1 else some LV.undef).bind fun t136_163 =>
 (pr.guard t134_161 false).bind fun b164 =>
 (if b164 = true then pr.load 1 false u158.2 t136_163 else some LV.undef).bind fun t137_164 =>
 (pr.guard t134_161 false).bind fun b165 =>
 (if b165 = true then pr.len true t137_164 else some LV.undef).bind fun t138_165 =>
 (pr.guard t134_161 false).bind fun b166 =>
 (if b166 = true then pr.fieldAddr 8 38 t8_56.1 else some LV.undef).bind fun t139_166 =>
 (pr.guard t134_161 false).bind fun b167 =>
 (if b167 = true then pr.load 1 false u158.2 t139_166 else some LV.undef).bind fun t140_167 =>
 (pr.guard t134_161 false).bind fun b168 =>
 (if b168 = true then pr.bin .sub (LV.int .i64 65535) t140_167 else some LV.undef).bind fun t141_168 =>
 (pr.guard t134_161 false).bind fun b169 =>
 (if b169 = true then pr.bin .gtr t138_165 t141_168 else some LV.undef).bind fun t142_169 =>
 (pr.pick t134_161 (LV.bool true) t142_169).bind fun t143_170 =>
 condK t143_170 (
 (pr.load 42 true u158.2 t4_2.1).bind fun t144_171 =>
 (pr.call g id_ip6_fault u158.2 [(LV.int .i64 8)]).bind fun t145_172 =>
 (pr.store 42 true u158.2 t2_0.1 t144_171).bind fun u173 =>
 (pr.load 42 true u173.2 t2_0.1).bind fun v175 =>
 pr.fin none u173.2 [v175, t145_172]) (
 (pr.load 42 true u158.2 t8_56.1).bind fun t146_176 =>
 (pr.store 42 true u158.2 t2_0.1 t146_176).bind fun u177 =>
 (pr.load 42 true u177.2 t2_0.1).bind fun v179 =>
 pr.fin none u177.2 [v179, LV.nili])))))))
theorem F_ip6_Parse_eq (g : Call) (a0 : LV) : fnEv g c_ip6_Parse [a0] none = F_ip6_Parse g a0 := by kernel_rfl

/-- interpreter/refrag.pieces -/
noncomputable def F_refrag_pieces (g : Call) (a0 : LV) (a1 : LV) : Option (LV × Option LV) :=
 (pr.nilT 2 5 noSlots).bind fun t5_1 =>
 (whileW (fun q3 : List LV × Slots =>
 (pr.bin .lss (getL q3.1 1) a0).bind fun t9_6 =>
 condK t9_6 (
 (pr.bin .add (getL q3.1 1) a1).bind fun t17_11 =>
 (pr.minmax false t17_11 [a0]).bind fun t19_13 =>
 (pr.parts (LV.agg [(LV.int .i64 0), (LV.int .i64 0)]) [(0, (getL q3.1 1)), (1, t19_13)]).bind fun t20_14 =>
 (pr.bsl (LV.agg [(LV.int .i64 0), (LV.int .i64 0)]) 1 [(0, t20_14)]).bind fun t21_15 =>
 (pr.append 2 16 22 q3.2 (getL q3.1 0) t21_15).bind fun t22_16 =>
 (pr.bin .add (getL q3.1 1) a1).bind fun t12_20 =>
 pr.round t5_1.2 .normal [t22_16.1, t12_20] t22_16.2) (
 pr.round t5_1.2 (.exit 0) [(getL q3.1 0), (getL q3.1 1)] q3.2)) ([t5_1.1, (LV.int .i64 0)], t5_1.2)).bind fun r3 =>
 exIf r3.1 (.exit 0) (
 pr.fin none r3.2.2 [(getL r3.2.1 0)]) (none)
theorem F_refrag_pieces_eq (g : Call) (a0 : LV) (a1 : LV) : fnEv g c_refrag_pieces [a0, a1] none = F_refrag_pieces g a0 a1 := by kernel_rfl

/-- interpreter/ip4.why -/
noncomputable def F_ip4_why (g : Call) (a0 : LV) : Option (LV × Option LV) :=
 (pr.box a0).bind fun t1_0 =>
 (pr.fieldAddr 0 0 t1_0).bind fun t4_2 =>
 (pr.load 1 false noSlots t4_2).bind fun t5_3 =>
 (pr.fieldAddr 2 2 t1_0).bind fun t6_4 =>
 (pr.load 1 false noSlots t6_4).bind fun t7_5 =>
 (pr.fieldAddr 3 3 t1_0).bind fun t8_6 =>
 (pr.load 1 false noSlots t8_6).bind fun t9_7 =>
 (pr.bsl (LV.int .i64 0) 3 [(0, t5_3), (1, t7_5), (2, t9_7)]).bind fun t10_8 =>
 (pr.call g id_ip4_byteful noSlots [t10_8]).bind fun t11_9 =>
 (pr.un .not t11_9).bind fun t12_10 =>
 (pr.guard t12_10 false).bind fun b12 =>
 (if b12 = true then pr.fieldAddr 1 1 t1_0 else some LV.undef).bind fun t14_12 =>
 (pr.guard t12_10 false).bind fun b13 =>
 (if b13 = true then pr.load 1 false noSlots t14_12 else some LV.undef).bind fun t15_13 =>
 (pr.guard t12_10 false).bind fun b14 =>
 (if b14 = true then pr.bin .lss t15_13 (LV.int .i64 0) else some LV.undef).bind fun t16_14 =>
 (pr.pick t12_10 (LV.bool true) t16_14).bind fun t17_15 =>
 (pr.guard t17_15 false).bind fun b17 =>
 (if b17 = true then pr.fieldAddr 1 1 t1_0 else some LV.undef).bind fun t19_17 =>
 (pr.guard t17_15 false).bind fun b18 =>
 (if b18 = true then pr.load 1 false noSlots t19_17 else some LV.undef).bind fun t20_18 =>
 (pr.guard t17_15 false).bind fun b19 =>
 (if b19 = true then pr.bin .gtr t20_18 (LV.int .i64 65535) else some LV.undef).bind fun t21_19 =>
 (pr.pick t17_15 (LV.bool true) t21_19).bind fun t22_20 =>
 (pr.guard t22_20 false).bind fun b22 =>
 (if b22 = true then pr.fieldAddr 4 4 t1_0 else some LV.undef).bind fun t24_22 =>
 (pr.guard t22_20 false).bind fun b23 =>
 (if b23 = true then pr.load 1 false noSlots t24_22 else some LV.undef).bind fun t25_23 =>
 (pr.guard t22_20 false).bind fun b24 =>
 (if b24 = true then pr.bin .lss t25_23 (LV.int .i64 0) else some LV.undef).bind fun t26_24 =>
 (pr.pick t22_20 (LV.bool true) t26_24).bind fun t27_25 =>
 (pr.guard t27_25 false).bind fun b27 =>
 (if b27 = true then pr.fieldAddr 4 4 t1_0 else some LV.undef).bind fun t29_27 =>
 (pr.guard t27_25 false).bind fun b28 =>
 (if b28 = true then pr.load 1 false noSlots t29_27 else some LV.undef).bind fun t30_28 =>
 (pr.guard t27_25 false).bind fun b29 =>
 (if b29 = true then pr.bin .gtr t30_28 (LV.int .i64 65528) else some LV.undef).bind fun t31_29 =>
 (pr.pick t27_25 (LV.bool true) t31_29).bind fun t32_30 =>
 (pr.guard t32_30 false).bind fun b32 =>
 (if b32 = true then pr.fieldAddr 4 4 t1_0 else some LV.undef).bind fun t34_32 =>
 (pr.guard t32_30 false).bind fun b33 =>
 (if b33 = true then pr.load 1 false noSlots t34_32 else some LV.undef).bind fun t35_33 =>
 (pr.guard t32_30 false).bind fun b34 =>
 (if b34 = true then pr.bin .rem t35_33 (LV.int .i64 8) else some LV.undef).bind fun t36_34 =>
 (pr.guard t32_30 false).bind fun b35 =>
 (if b35 = true then pr.bin .neq t36_34 (LV.int .i64 0) else some LV.undef).bind fun t37_35 =>
 (pr.pick t32_30 (LV.bool true) t37_35).bind fun t38_36 =>
 condK t38_36 (
 pr.fin none noSlots [(LV.int .i64 13)]) (
 (pr.fieldAddr 9 15 t1_0).bind fun t40_39 =>
 (pr.load 1 false noSlots t40_39).bind fun t41_40 =>
 (pr.len true t41_40).bind fun t42_41 =>
 (pr.bin .gtr t42_41 (LV.int .i64 40)).bind fun t43_42 =>
 (pr.guard t43_42 false).bind fun b44 =>
 (if b44 = true then pr.fieldAddr 9 15 t1_0 else some LV.undef).bind fun t45_44 =>
 (pr.guard t43_42 false).bind fun b45 =>
 (if b45 = true then pr.load 1 false noSlots t45_44 else some LV.undef).bind fun t46_45 =>
 (pr.guard t43_42 false).bind fun b46 =>
 (if b46 = true then pr.len true t46_45 else some LV.undef).bind fun t47_46 =>
 (pr.guard t43_42 false).bind fun b47 =>
 (if b47 = true then pr.bin .rem t47_46 (LV.int .i64 4) else some LV.undef).bind fun t48_47 =>
 (pr.guard t43_42 false).bind fun b48 =>
 (if b48 = true then pr.bin .neq t48_47 (LV.int .i64 0) else some LV.undef).bind fun t49_48 =>
 (pr.pick t43_42 (LV.bool true) t49_48).bind fun t50_49 =>
 (pr.guard t50_49 false).bind fun b51 =>
 (if b51 = true then pr.fieldAddr 6 6 t1_0 else some LV.undef).bind fun t52_51 =>
 (pr.guard t50_49 false).bind fun b52 =>
 (if b52 = true then pr.load 1 false noSlots t52_51 else some LV.undef).bind fun t53_52 =>
 (pr.guard t50_49 false).bind fun b53 =>
 (if b53 = true then some t53_52 else some LV.undef).bind fun t54_53 =>
 (pr.guard t54_53 true).bind fun b54 =>
 (if b54 = true then pr.fieldAddr 10 16 t1_0 else some LV.undef).bind fun t55_54 =>
 (pr.guard t54_53 true).bind fun b55 =>
 (if b55 = true then pr.load 1 false noSlots t55_54 else some LV.undef).bind fun t56_55 =>
 (pr.guard t54_53 true).bind fun b56 =>
 (if b56 = true then pr.bin .eql t56_55 (LV.str []) else some LV.undef).bind fun t57_56 =>
 (pr.guard t54_53 true).bind fun b57 =>
 (if b57 = true then some t57_56 else some LV.undef).bind fun t58_57 =>
 (pr.guard t58_57 false).bind fun b58 =>
 (if b58 = true then pr.fieldAddr 10 16 t1_0 else some LV.undef).bind fun t59_58 =>
 (pr.guard t58_57 false).bind fun b59 =>
 (if b59 = true then pr.load 1 false noSlots t59_58 else some LV.undef).bind fun t60_59 =>
 (pr.guard t58_57 false).bind fun b60 =>
 (if b60 = true then pr.len true t60_59 else some LV.undef).bind fun t61_60 =>
 (pr.guard t58_57 false).bind fun b61 =>
 (if b61 = true then pr.bin .rem t61_60 (LV.int .i64 8) else some LV.undef).bind fun t62_61 =>
 (pr.guard t58_57 false).bind fun b62 =>
 (if b62 = true then pr.bin .neq t62_61 (LV.int .i64 0) else some LV.undef).bind fun t63_62 =>
 (pr.guard t54_53 true).bind fun b63 =>
 (if b63 = true then pr.pick t58_57 (LV.bool true) t63_62 else some LV.undef).bind fun t64_63 =>
 (pr.guard t50_49 false).bind fun b64 =>
 (if b64 = true then pr.pick t54_53 t64_63 (LV.bool false) else some LV.undef).bind fun t65_64 =>
 (pr.pick t50_49 (LV.bool true) t65_64).bind fun t66_65 =>
 condK t66_65 (
 pr.fin none noSlots [(LV.int .i64 8)]) (
 (pr.fieldAddr 10 16 t1_0).bind fun t68_68 =>
 (pr.load 1 false noSlots t68_68).bind fun t69_69 =>
 (pr.len true t69_69).bind fun t70_70 =>
 (pr.fieldAddr 9 15 t1_0).bind fun t71_71 =>
 (pr.load 1 false noSlots t71_71).bind fun t72_72 =>
 (pr.len true t72_72).bind fun t73_73 =>
 (pr.bin .sub (LV.int .i64 65515) t73_73).bind fun t74_74 =>
 (pr.fieldAddr 4 4 t1_0).bind fun t75_75 =>
 (pr.load 1 false noSlots t75_75).bind fun t76_76 =>
 (pr.bin .sub t74_74 t76_76).bind fun t77_77 =>
 (pr.bin .gtr t70_70 t77_77).bind fun t78_78 =>
 condK t78_78 (
 pr.fin none noSlots [(LV.int .i64 3)]) (
 pr.fin none noSlots [(LV.int .i64 0)])))
theorem F_ip4_why_eq (g : Call) (a0 : LV) : fnEv g c_ip4_why [a0] none = F_ip4_why g a0 := by kernel_rfl

/-- interpreter/ip4.fault -/
noncomputable def F_ip4_fault (g : Call) (a0 : LV) : Option (LV × Option LV) :=
 (pr.parts (LV.agg [(LV.int .i64 0), (LV.int .i64 0)]) [(0, a0)]).bind fun t4_2 =>
 (pr.box t4_2).bind fun t5_3 =>
 (pr.iface ty_ptr_num_Fault t5_3).bind fun t6_4 =>
 pr.fin none noSlots [t6_4]
theorem F_ip4_fault_eq (g : Call) (a0 : LV) : fnEv g c_ip4_fault [a0] none = F_ip4_fault g a0 := by kernel_rfl

/-- interpreter/ip4.big -/
noncomputable def F_ip4_big (g : Call) (a0 : LV) (a1 : LV) : Option (LV × Option LV) :=
 (pr.call g id_num_Big noSlots [a0, a1]).bind fun t10_3 =>
 (pr.extract t10_3 0).bind fun t11_5 =>
 (pr.extract t10_3 1).bind fun t12_6 =>
 pr.fin none noSlots [t11_5]
theorem F_ip4_big_eq (g : Call) (a0 : LV) (a1 : LV) : fnEv g c_ip4_big [a0, a1] none = F_ip4_big g a0 a1 := by kernel_rfl

/-- interpreter/sum.Of -/
noncomputable def F_sum_Of (g : Call) (a0 : LV) : Option (LV × Option LV) :=
 (pr.len false a0).bind fun t8_4 =>
 (whileW (fun q6 : List LV × Slots =>
 (pr.bin .lss (getL q6.1 2) t8_4).bind fun t10_7 =>
 condK t10_7 (
 (pr.idxAddr none 1 a0 (getL q6.1 2)).bind fun t11_8 =>
 (pr.load 1 false q6.2 t11_8).bind fun t12_9 =>
 (pr.call g id_sum_add q6.2 [(getL q6.1 0), (getL q6.1 1), t12_9, (LV.int .u8 0)]).bind fun t16_14 =>
 (pr.call g id_sum_fold q6.2 [t16_14]).bind fun t17_15 =>
 (pr.len true t12_9).bind fun t20_19 =>
 (pr.bin .add (getL q6.1 1) t20_19).bind fun t21_20 =>
 (pr.bin .add (getL q6.1 2) (LV.int .i64 1)).bind fun t22_22 =>
 pr.round noSlots .normal [t17_15, t21_20, t22_22] q6.2) (
 pr.round noSlots (.exit 0) [(getL q6.1 0), (getL q6.1 1), (getL q6.1 2)] q6.2)) ([(LV.int .i64 0), (LV.int .i64 0), (LV.int .i64 0)], noSlots)).bind fun r6 =>
 exIf r6.1 (.exit 0) (
 (pr.bin .sub (LV.int .i64 65535) (getL r6.2.1 0)).bind fun t24_25 =>
 pr.fin none r6.2.2 [t24_25]) (none)
theorem F_sum_Of_eq (g : Call) (a0 : LV) : fnEv g c_sum_Of [a0] none = F_sum_Of g a0 := by kernel_rfl

/-- interpreter/interpreterref17.Room -/
noncomputable def F_interpreterref17_Room (g : Call) (a0 : LV) (a1 : LV) : Option (LV × Option LV) :=
 (whileW (fun q2 : List LV × Slots =>
 (pr.bin .add a1 (getL q2.1 0)).bind fun t8_5 =>
 (pr.bin .add t8_5 (LV.int .i64 8)).bind fun t9_6 =>
 (pr.bin .leq t9_6 a0).bind fun t11_8 =>
 condK t11_8 (
 (pr.bin .add (getL q2.1 0) (LV.int .i64 8)).bind fun t13_10 =>
 pr.round noSlots .normal [t13_10] q2.2) (
 pr.round noSlots (.exit 0) [(getL q2.1 0)] q2.2)) ([(LV.int .i64 0)], noSlots)).bind fun r2 =>
 exIf r2.1 (.exit 0) (
 pr.fin none r2.2.2 [(getL r2.2.1 0)]) (none)
theorem F_interpreterref17_Room_eq (g : Call) (a0 : LV) (a1 : LV) : fnEv g c_interpreterref17_Room [a0, a1] none = F_interpreterref17_Room g a0 a1 := by kernel_rfl

/-- slices.Clone[[]interpreter/api.Ext,interpreter/api.Ext] -/
noncomputable def F_slices_Clone_api_Ext_api_Ext (g : Call) (a0 : LV) : Option (LV × Option LV) :=
 (pr.eqNil 3 false a0).bind fun t4_2 =>
 condK t4_2 (
 pr.fin none noSlots [LV.nils]) (
 (pr.slc0 LV.nils).bind fun t5_4 =>
 (pr.append 2 24 7 noSlots t5_4 a0).bind fun t7_6 =>
 pr.fin none t7_6.2 [t7_6.1])
theorem F_slices_Clone_api_Ext_api_Ext_eq (g : Call) (a0 : LV) : fnEv g c_slices_Clone_api_Ext_api_Ext [a0] none = F_slices_Clone_api_Ext_api_Ext g a0 := by kernel_rfl

/-- interpreter/ip6.why -/
noncomputable def F_ip6_why (g : Call) (a0 : LV) : Option (LV × Option LV) :=
 (pr.box a0).bind fun t1_0 =>
 (pr.fieldAddr 0 0 t1_0).bind fun t4_2 =>
 (pr.load 1 false noSlots t4_2).bind fun t5_3 =>
 (pr.call g id_ip6_within noSlots [t5_3, (LV.int .i64 255)]).bind fun t6_4 =>
 (pr.un .not t6_4).bind fun t7_5 =>
 (pr.guard t7_5 false).bind fun b7 =>
 (if b7 = true then pr.fieldAddr 1 1 t1_0 else some LV.undef).bind fun t9_7 =>
 (pr.guard t7_5 false).bind fun b8 =>
 (if b8 = true then pr.load 1 false noSlots t9_7 else some LV.undef).bind fun t10_8 =>
 (pr.guard t7_5 false).bind fun b9 =>
 (if b9 = true then pr.call g id_ip6_within noSlots [t10_8, (LV.int .i64 1048575)] else some LV.undef).bind fun t11_9 =>
 (pr.guard t7_5 false).bind fun b10 =>
 (if b10 = true then pr.un .not t11_9 else some LV.undef).bind fun t12_10 =>
 (pr.pick t7_5 (LV.bool true) t12_10).bind fun t13_11 =>
 (pr.guard t13_11 false).bind fun b13 =>
 (if b13 = true then pr.fieldAddr 2 2 t1_0 else some LV.undef).bind fun t15_13 =>
 (pr.guard t13_11 false).bind fun b14 =>
 (if b14 = true then pr.load 1 false noSlots t15_13 else some LV.undef).bind fun t16_14 =>
 (pr.guard t13_11 false).bind fun b15 =>
 (if b15 = true then pr.call g id_ip6_within noSlots [t16_14, (LV.int .i64 255)] else some LV.undef).bind fun t17_15 =>
 (pr.guard t13_11 false).bind fun b16 =>
 (if b16 = true then pr.un .not t17_15 else some LV.undef).bind fun t18_16 =>
 (pr.pick t13_11 (LV.bool true) t18_16).bind fun t19_17 =>
 (pr.guard t19_17 false).bind fun b19 =>
 (if b19 = true then pr.fieldAddr 10 40 t1_0 else some LV.undef).bind fun t21_19 =>
 (pr.guard t19_17 false).bind fun b20 =>
 (if b20 = true then pr.load 1 false noSlots t21_19 else some LV.undef).bind fun t22_20 =>
 (pr.guard t19_17 false).bind fun b21 =>
 (if b21 = true then pr.call g id_ip6_within noSlots [t22_20, (LV.int .i64 255)] else some LV.undef).bind fun t23_21 =>
 (pr.guard t19_17 false).bind fun b22 =>
 (if b22 = true then pr.un .not t23_21 else some LV.undef).bind fun t24_22 =>
 (pr.pick t19_17 (LV.bool true) t24_22).bind fun t25_23 =>
 (pr.guard t25_23 false).bind fun b25 =>
 (if b25 = true then pr.fieldAddr 8 38 t1_0 else some LV.undef).bind fun t27_25 =>
 (pr.guard t25_23 false).bind fun b26 =>
 (if b26 = true then pr.load 1 false noSlots t27_25 else some LV.undef).bind fun t28_26 =>
 (pr.guard t25_23 false).bind fun b27 =>
 (if b27 = true then pr.call g id_ip6_within noSlots [t28_26, (LV.int .i64 65528)] else some LV.undef).bind fun t29_27 =>
 (pr.guard t25_23 false).bind fun b28 =>
 (if b28 = true then pr.un .not t29_27 else some LV.undef).bind fun t30_28 =>
 (pr.pick t25_23 (LV.bool true) t30_28).bind fun t31_29 =>
 (pr.guard t31_29 false).bind fun b31 =>
 (if b31 = true then pr.fieldAddr 8 38 t1_0 else some LV.undef).bind fun t33_31 =>
 (pr.guard t31_29 false).bind fun b32 =>
 (if b32 = true then pr.load 1 false noSlots t33_31 else some LV.undef).bind fun t34_32 =>
 (pr.guard t31_29 false).bind fun b33 =>
 (if b33 = true then pr.bin .rem t34_32 (LV.int .i64 8) else some LV.undef).bind fun t35_33 =>
 (pr.guard t31_29 false).bind fun b34 =>
 (if b34 = true then pr.bin .neq t35_33 (LV.int .i64 0) else some LV.undef).bind fun t36_34 =>
 (pr.pick t31_29 (LV.bool true) t36_34).bind fun t37_35 =>
 condK t37_35 (
 pr.fin none noSlots [(LV.int .i64 13)]) (
 (pr.load 42 true noSlots t1_0).bind fun t39_38 =>
 (pr.call g id_ip6_kinds noSlots [t39_38]).bind fun t40_39 =>
 (pr.un .not t40_39).bind fun t41_40 =>
 condK t41_40 (
 pr.fin none noSlots [(LV.int .i64 10)]) (
 (pr.load 42 true noSlots t1_0).bind fun t43_43 =>
 (pr.call g id_ip6_formed noSlots [t43_43]).bind fun t44_44 =>
 (pr.un .not t44_44).bind fun t45_45 =>
 condK t45_45 (
 pr.fin none noSlots [(LV.int .i64 8)]) (
 (pr.fieldAddr 5 35 t1_0).bind fun t47_48 =>
 (pr.load 1 false noSlots t47_48).bind fun t48_49 =>
 (pr.len false t48_49).bind fun t49_50 =>
 (pr.bin .gtr t49_50 (LV.int .i64 8)).bind fun t50_51 =>
 (pr.guard t50_51 false).bind fun b53 =>
 (if b53 = true then pr.fieldAddr 11 41 t1_0 else some LV.undef).bind fun t52_53 =>
 (pr.guard t50_51 false).bind fun b54 =>
 (if b54 = true then pr.load 1 false noSlots t52_53 else some LV.undef).bind fun t53_54 =>
 (pr.guard t50_51 false).bind fun b55 =>
 (if b55 = true then pr.len true t53_54 else some LV.undef).bind fun t54_55 =>
 (pr.guard t50_51 false).bind fun b56 =>
 (if b56 = true then pr.fieldAddr 8 38 t1_0 else some LV.undef).bind fun t55_56 =>
 (pr.guard t50_51 false).bind fun b57 =>
 (if b57 = true then pr.load 1 false noSlots t55_56 else some LV.undef).bind fun t56_57 =>
 (pr.guard t50_51 false).bind fun b58 =>
 (if b58 = true then pr.bin .sub (LV.int .i64 65535) t56_57 else some LV.undef).bind fun t57_58 =>
 (pr.guard t50_51 false).bind fun b59 =>
 (if b59 = true then pr.bin .gtr t54_55 t57_58 else some LV.undef).bind fun t58_59 =>
 (pr.pick t50_51 (LV.bool true) t58_59).bind fun t59_60 =>
 (pr.guard t59_60 false).bind fun b62 =>
 (if b62 = true then pr.load 42 true noSlots t1_0 else some LV.undef).bind fun t61_62 =>
 (pr.guard t59_60 false).bind fun b63 =>
 (if b63 = true then pr.call g id_ip6_size noSlots [t61_62] else some LV.undef).bind fun t62_63 =>
 (pr.guard t59_60 false).bind fun b64 =>
 (if b64 = true then pr.bin .gtr t62_63 (LV.int .i64 65535) else some LV.undef).bind fun t63_64 =>
 (pr.pick t59_60 (LV.bool true) t63_64).bind fun t64_65 =>
 condK t64_65 (
 pr.fin none noSlots [(LV.int .i64 3)]) (
 pr.fin none noSlots [(LV.int .i64 0)]))))
theorem F_ip6_why_eq (g : Call) (a0 : LV) : fnEv g c_ip6_why [a0] none = F_ip6_why g a0 := by kernel_rfl

/-- interpreter/ip6.fault -/
noncomputable def F_ip6_fault (g : Call) (a0 : LV) : Option (LV × Option LV) :=
 (pr.parts (LV.agg [(LV.int .i64 0), (LV.int .i64 0)]) [(0, a0)]).bind fun t4_2 =>
 (pr.box t4_2).bind fun t5_3 =>
 (pr.iface ty_ptr_num_Fault t5_3).bind fun t6_4 =>
 pr.fin none noSlots [t6_4]
theorem F_ip6_fault_eq (g : Call) (a0 : LV) : fnEv g c_ip6_fault [a0] none = F_ip6_fault g a0 := by kernel_rfl

/-- interpreter/ip6.big -/
noncomputable def F_ip6_big (g : Call) (a0 : LV) (a1 : LV) : Option (LV × Option LV) :=
 (pr.call g id_num_Big noSlots [a0, a1]).bind fun t10_3 =>
 (pr.extract t10_3 0).bind fun t11_5 =>
 (pr.extract t10_3 1).bind fun t12_6 =>
 pr.fin none noSlots [t11_5]
theorem F_ip6_big_eq (g : Call) (a0 : LV) (a1 : LV) : fnEv g c_ip6_big [a0, a1] none = F_ip6_big g a0 a1 := by kernel_rfl

/-- interpreter/sum.Right -/
noncomputable def F_sum_Right (g : Call) (a0 : LV) : Option (LV × Option LV) :=
 (pr.call g id_sum_Of noSlots [a0]).bind fun t4_2 =>
 (pr.bin .eql t4_2 (LV.int .i64 0)).bind fun t5_3 =>
 pr.fin none noSlots [t5_3]
theorem F_sum_Right_eq (g : Call) (a0 : LV) : fnEv g c_sum_Right [a0] none = F_sum_Right g a0 := by kernel_rfl

/-- interpreter/ip4.Parse$1 -/
noncomputable def F_ip4_Parse_1 (g : Call) (a0 : LV) (a1 : LV) : Option (LV × Option LV) :=
 (pr.load 1 false noSlots a1).bind fun t4_1 =>
 (pr.idxStr t4_1 a0).bind fun t6_3 =>
 (pr.conv .i64 t6_3).bind fun t7_4 =>
 (pr.bin .shl t7_4 (LV.int .u64 8)).bind fun t8_5 =>
 (pr.load 1 false noSlots a1).bind fun t9_6 =>
 (pr.bin .add a0 (LV.int .i64 1)).bind fun t11_8 =>
 (pr.idxStr t9_6 t11_8).bind fun t12_9 =>
 (pr.conv .i64 t12_9).bind fun t13_10 =>
 (pr.bin .or t8_5 t13_10).bind fun t14_11 =>
 pr.fin none noSlots [t14_11]
theorem F_ip4_Parse_1_eq (g : Call) (a0 : LV) (a1 : LV) : fnEv g c_ip4_Parse_1 [a0, a1] none = F_ip4_Parse_1 g a0 a1 := by kernel_rfl

/-- interpreter/num.New -/
noncomputable def F_num_New (g : Call) (a0 : LV) : Option (LV × Option LV) :=
 (pr.parts (LV.agg [(LV.str []), (LV.int .i64 0), LV.nilp]) [(0, a0)]).bind fun t4_2 =>
 (pr.boxM t4_2 5 noSlots).bind fun t5_3 =>
 pr.fin none t5_3.2 [t5_3.1]
theorem F_num_New_eq (g : Call) (a0 : LV) : fnEv g c_num_New [a0] none = F_num_New g a0 := by kernel_rfl

/-- (*interpreter/num.Reader).U32 -/
noncomputable def F_num_Reader_U32 (g : Call) (h : LV) : Option (LV × Option LV) :=
 (pr.callRw g id_num_Reader_number (upd noSlots 0 (.obj 0 h)) [(LV.ptr 0 0 [] 0), (LV.int .i64 4)]).bind fun t5_3 =>
 (pr.extract t5_3.1 0).bind fun t6_4 =>
 (pr.extract t5_3.1 1).bind fun t7_5 =>
 pr.fin (some h) t5_3.2 [t6_4, t7_5]
theorem F_num_Reader_U32_eq (g : Call) (h : LV) : fnEv g c_num_Reader_U32 [(LV.ptr 0 0 [] 0)] (some h) = F_num_Reader_U32 g h := by kernel_rfl

/-- interpreter/ip6.Chain -/
noncomputable def F_ip6_Chain (g : Call) (a0 : LV) (a1 : LV) : Option (LV × Option LV) :=
 (whileW (fun q4 : List LV × Slots =>
 (pr.call g id_ip6_extends q4.2 [(getL q4.1 4)]).bind fun t11_6 =>
 condK t11_6 (
 (pr.len true (getL q4.1 5)).bind fun t13_10 =>
 (pr.bin .geq t13_10 (LV.int .i64 2)).bind fun t14_11 =>
 condK t14_11 (
 (pr.idxStr (getL q4.1 5) (LV.int .i64 1)).bind fun t17_14 =>
 (pr.conv .i64 t17_14).bind fun t18_15 =>
 (pr.bin .mul t18_15 (LV.int .i64 8)).bind fun t19_16 =>
 (pr.bin .add (LV.int .i64 8) t19_16).bind fun t20_17 =>
 (pr.bin .eql (getL q4.1 4) (LV.int .i64 0)).bind fun t23_20 =>
 (pr.guard t23_20 true).bind fun b22 =>
 (if b22 = true then some (getL q4.1 0) else some LV.undef).bind fun t25_22 =>
 (pr.guard t23_20 true).bind fun b23 =>
 (if b23 = true then pr.len false t25_22 else some LV.undef).bind fun t26_23 =>
 (pr.guard t23_20 true).bind fun b24 =>
 (if b24 = true then pr.bin .gtr t26_23 (LV.int .i64 0) else some LV.undef).bind fun t27_24 =>
 (pr.pick t23_20 t27_24 (LV.bool false)).bind fun t28_25 =>
 condK t28_25 (
 (pr.bin .neq (LV.int .i64 8) (LV.int .i64 0)).bind fun t39_29 =>
 condK t39_29 (
 (pr.call g id_ip6_fault q4.2 [(LV.int .i64 8)]).bind fun t41_31 =>
 pr.round noSlots .ret [LV.nils, (LV.int .i64 0), (LV.str []), t41_31, (getL q4.1 4), (getL q4.1 5)] q4.2) (
 (pr.slc 0 (getL q4.1 5) (some (LV.int .i64 2)) (some t20_17)).bind fun t46_40 =>
 (pr.parts (LV.agg [(LV.int .i64 0), (LV.str [])]) [(0, (getL q4.1 4)), (1, t46_40)]).bind fun t47_41 =>
 (pr.bsl (LV.agg [(LV.int .i64 0), (LV.str [])]) 1 [(0, t47_41)]).bind fun t48_42 =>
 (pr.append 2 24 49 q4.2 (getL q4.1 0) t48_42).bind fun t49_43 =>
 (pr.idxStr (getL q4.1 5) (LV.int .i64 0)).bind fun t51_46 =>
 (pr.conv .i64 t51_46).bind fun t52_47 =>
 (pr.slc 0 (getL q4.1 5) (some t20_17) none).bind fun t55_50 =>
 pr.round noSlots .normal [t49_43.1, (getL q4.1 1), (getL q4.1 2), (getL q4.1 3), t52_47, t55_50] t49_43.2)) (
 (pr.len false (getL q4.1 0)).bind fun t31_54 =>
 (pr.bin .geq t31_54 (LV.int .i64 8)).bind fun t32_55 =>
 condK t32_55 (
 (pr.bin .neq (LV.int .i64 3) (LV.int .i64 0)).bind fun t39_59 =>
 condK t39_59 (
 (pr.call g id_ip6_fault q4.2 [(LV.int .i64 3)]).bind fun t41_61 =>
 pr.round noSlots .ret [LV.nils, (LV.int .i64 0), (LV.str []), t41_61, (getL q4.1 4), (getL q4.1 5)] q4.2) (
 (pr.slc 0 (getL q4.1 5) (some (LV.int .i64 2)) (some t20_17)).bind fun t46_70 =>
 (pr.parts (LV.agg [(LV.int .i64 0), (LV.str [])]) [(0, (getL q4.1 4)), (1, t46_70)]).bind fun t47_71 =>
 (pr.bsl (LV.agg [(LV.int .i64 0), (LV.str [])]) 1 [(0, t47_71)]).bind fun t48_72 =>
 (pr.append 2 24 49 q4.2 (getL q4.1 0) t48_72).bind fun t49_73 =>
 (pr.idxStr (getL q4.1 5) (LV.int .i64 0)).bind fun t51_76 =>
 (pr.conv .i64 t51_76).bind fun t52_77 =>
 (pr.slc 0 (getL q4.1 5) (some t20_17) none).bind fun t55_80 =>
 pr.round noSlots .normal [t49_73.1, (getL q4.1 1), (getL q4.1 2), (getL q4.1 3), t52_77, t55_80] t49_73.2)) (
 (pr.len true (getL q4.1 5)).bind fun t35_84 =>
 (pr.bin .lss t35_84 t20_17).bind fun t37_86 =>
 condK t37_86 (
 (pr.bin .neq (LV.int .i64 7) (LV.int .i64 0)).bind fun t39_90 =>
 condK t39_90 (
 (pr.call g id_ip6_fault q4.2 [(LV.int .i64 7)]).bind fun t41_92 =>
 pr.round noSlots .ret [LV.nils, (LV.int .i64 0), (LV.str []), t41_92, (getL q4.1 4), (getL q4.1 5)] q4.2) (
 (pr.slc 0 (getL q4.1 5) (some (LV.int .i64 2)) (some t20_17)).bind fun t46_101 =>
 (pr.parts (LV.agg [(LV.int .i64 0), (LV.str [])]) [(0, (getL q4.1 4)), (1, t46_101)]).bind fun t47_102 =>
 (pr.bsl (LV.agg [(LV.int .i64 0), (LV.str [])]) 1 [(0, t47_102)]).bind fun t48_103 =>
 (pr.append 2 24 49 q4.2 (getL q4.1 0) t48_103).bind fun t49_104 =>
 (pr.idxStr (getL q4.1 5) (LV.int .i64 0)).bind fun t51_107 =>
 (pr.conv .i64 t51_107).bind fun t52_108 =>
 (pr.slc 0 (getL q4.1 5) (some t20_17) none).bind fun t55_111 =>
 pr.round noSlots .normal [t49_104.1, (getL q4.1 1), (getL q4.1 2), (getL q4.1 3), t52_108, t55_111] t49_104.2)) (
 (pr.bin .neq (LV.int .i64 0) (LV.int .i64 0)).bind fun t39_115 =>
 condK t39_115 (
 (pr.call g id_ip6_fault q4.2 [(LV.int .i64 0)]).bind fun t41_117 =>
 pr.round noSlots .ret [LV.nils, (LV.int .i64 0), (LV.str []), t41_117, (getL q4.1 4), (getL q4.1 5)] q4.2) (
 (pr.slc 0 (getL q4.1 5) (some (LV.int .i64 2)) (some t20_17)).bind fun t46_126 =>
 (pr.parts (LV.agg [(LV.int .i64 0), (LV.str [])]) [(0, (getL q4.1 4)), (1, t46_126)]).bind fun t47_127 =>
 (pr.bsl (LV.agg [(LV.int .i64 0), (LV.str [])]) 1 [(0, t47_127)]).bind fun t48_128 =>
 (pr.append 2 24 49 q4.2 (getL q4.1 0) t48_128).bind fun t49_129 =>
 (pr.idxStr (getL q4.1 5) (LV.int .i64 0)).bind fun t51_132 =>
 (pr.conv .i64 t51_132).bind fun t52_133 =>
 (pr.slc 0 (getL q4.1 5) (some t20_17) none).bind fun t55_136 =>
 pr.round noSlots .normal [t49_129.1, (getL q4.1 1), (getL q4.1 2), (getL q4.1 3), t52_133, t55_136] t49_129.2))))) (
 (pr.bin .eql (getL q4.1 4) (LV.int .i64 0)).bind fun t23_140 =>
 (pr.guard t23_140 true).bind fun b142 =>
 (if b142 = true then some (getL q4.1 0) else some LV.undef).bind fun t25_142 =>
 (pr.guard t23_140 true).bind fun b143 =>
 (if b143 = true then pr.len false t25_142 else some LV.undef).bind fun t26_143 =>
 (pr.guard t23_140 true).bind fun b144 =>
 (if b144 = true then pr.bin .gtr t26_143 (LV.int .i64 0) else some LV.undef).bind fun t27_144 =>
 (pr.pick t23_140 t27_144 (LV.bool false)).bind fun t28_145 =>
 condK t28_145 (
 (pr.bin .neq (LV.int .i64 8) (LV.int .i64 0)).bind fun t39_149 =>
 condK t39_149 (
 (pr.call g id_ip6_fault q4.2 [(LV.int .i64 8)]).bind fun t41_151 =>
 pr.round noSlots .ret [LV.nils, (LV.int .i64 0), (LV.str []), t41_151, (getL q4.1 4), (getL q4.1 5)] q4.2) (
 (pr.slc 0 (getL q4.1 5) (some (LV.int .i64 2)) (some (LV.int .i64 8))).bind fun t46_160 =>
 (pr.parts (LV.agg [(LV.int .i64 0), (LV.str [])]) [(0, (getL q4.1 4)), (1, t46_160)]).bind fun t47_161 =>
 (pr.bsl (LV.agg [(LV.int .i64 0), (LV.str [])]) 1 [(0, t47_161)]).bind fun t48_162 =>
 (pr.append 2 24 49 q4.2 (getL q4.1 0) t48_162).bind fun t49_163 =>
 (pr.idxStr (getL q4.1 5) (LV.int .i64 0)).bind fun t51_166 =>
 (pr.conv .i64 t51_166).bind fun t52_167 =>
 (pr.slc 0 (getL q4.1 5) (some (LV.int .i64 8)) none).bind fun t55_170 =>
 pr.round noSlots .normal [t49_163.1, (getL q4.1 1), (getL q4.1 2), (getL q4.1 3), t52_167, t55_170] t49_163.2)) (
 (pr.len false (getL q4.1 0)).bind fun t31_174 =>
 (pr.bin .geq t31_174 (LV.int .i64 8)).bind fun t32_175 =>
 condK t32_175 (
 (pr.bin .neq (LV.int .i64 3) (LV.int .i64 0)).bind fun t39_179 =>
 condK t39_179 (
 (pr.call g id_ip6_fault q4.2 [(LV.int .i64 3)]).bind fun t41_181 =>
 pr.round noSlots .ret [LV.nils, (LV.int .i64 0), (LV.str []), t41_181, (getL q4.1 4), (getL q4.1 5)] q4.2) (
 (pr.slc 0 (getL q4.1 5) (some (LV.int .i64 2)) (some (LV.int .i64 8))).bind fun t46_190 =>
 (pr.parts (LV.agg [(LV.int .i64 0), (LV.str [])]) [(0, (getL q4.1 4)), (1, t46_190)]).bind fun t47_191 =>
 (pr.bsl (LV.agg [(LV.int .i64 0), (LV.str [])]) 1 [(0, t47_191)]).bind fun t48_192 =>
 (pr.append 2 24 49 q4.2 (getL q4.1 0) t48_192).bind fun t49_193 =>
 (pr.idxStr (getL q4.1 5) (LV.int .i64 0)).bind fun t51_196 =>
 (pr.conv .i64 t51_196).bind fun t52_197 =>
 (pr.slc 0 (getL q4.1 5) (some (LV.int .i64 8)) none).bind fun t55_200 =>
 pr.round noSlots .normal [t49_193.1, (getL q4.1 1), (getL q4.1 2), (getL q4.1 3), t52_197, t55_200] t49_193.2)) (
 (pr.len true (getL q4.1 5)).bind fun t35_204 =>
 (pr.bin .lss t35_204 (LV.int .i64 8)).bind fun t37_206 =>
 condK t37_206 (
 (pr.bin .neq (LV.int .i64 7) (LV.int .i64 0)).bind fun t39_210 =>
 condK t39_210 (
 (pr.call g id_ip6_fault q4.2 [(LV.int .i64 7)]).bind fun t41_212 =>
 pr.round noSlots .ret [LV.nils, (LV.int .i64 0), (LV.str []), t41_212, (getL q4.1 4), (getL q4.1 5)] q4.2) (
 (pr.slc 0 (getL q4.1 5) (some (LV.int .i64 2)) (some (LV.int .i64 8))).bind fun t46_221 =>
 (pr.parts (LV.agg [(LV.int .i64 0), (LV.str [])]) [(0, (getL q4.1 4)), (1, t46_221)]).bind fun t47_222 =>
 (pr.bsl (LV.agg [(LV.int .i64 0), (LV.str [])]) 1 [(0, t47_222)]).bind fun t48_223 =>
 (pr.append 2 24 49 q4.2 (getL q4.1 0) t48_223).bind fun t49_224 =>
 (pr.idxStr (getL q4.1 5) (LV.int .i64 0)).bind fun t51_227 =>
 (pr.conv .i64 t51_227).bind fun t52_228 =>
 (pr.slc 0 (getL q4.1 5) (some (LV.int .i64 8)) none).bind fun t55_231 =>
 pr.round noSlots .normal [t49_224.1, (getL q4.1 1), (getL q4.1 2), (getL q4.1 3), t52_228, t55_231] t49_224.2)) (
 (pr.bin .neq (LV.int .i64 0) (LV.int .i64 0)).bind fun t39_235 =>
 condK t39_235 (
 (pr.call g id_ip6_fault q4.2 [(LV.int .i64 0)]).bind fun t41_237 =>
 pr.round noSlots .ret [LV.nils, (LV.int .i64 0), (LV.str []), t41_237, (getL q4.1 4), (getL q4.1 5)] q4.2) (
 (pr.slc 0 (getL q4.1 5) (some (LV.int .i64 2)) (some (LV.int .i64 8))).bind fun t46_246 =>
 (pr.parts (LV.agg [(LV.int .i64 0), (LV.str [])]) [(0, (getL q4.1 4)), (1, t46_246)]).bind fun t47_247 =>
 (pr.bsl (LV.agg [(LV.int .i64 0), (LV.str [])]) 1 [(0, t47_247)]).bind fun t48_248 =>
 (pr.append 2 24 49 q4.2 (getL q4.1 0) t48_248).bind fun t49_249 =>
 (pr.idxStr (getL q4.1 5) (LV.int .i64 0)).bind fun t51_252 =>
 (pr.conv .i64 t51_252).bind fun t52_253 =>
 (pr.slc 0 (getL q4.1 5) (some (LV.int .i64 8)) none).bind fun t55_256 =>
 pr.round noSlots .normal [t49_249.1, (getL q4.1 1), (getL q4.1 2), (getL q4.1 3), t52_253, t55_256] t49_249.2)))))) (
 pr.round noSlots (.exit 0) [(getL q4.1 0), (getL q4.1 1), (getL q4.1 2), (getL q4.1 3), (getL q4.1 4), (getL q4.1 5)] q4.2)) ([LV.nils, (LV.int .i64 0), (LV.str []), LV.nili, a0, a1], noSlots)).bind fun r4 =>
 exIf r4.1 (.exit 0) (
 pr.fin none r4.2.2 [(getL r4.2.1 0), (getL r4.2.1 4), (getL r4.2.1 5), LV.nili]) (exIf r4.1 .ret (
 pr.fin none r4.2.2 [(getL r4.2.1 0), (getL r4.2.1 1), (getL r4.2.1 2), (getL r4.2.1 3)]) (none))
theorem F_ip6_Chain_eq (g : Call) (a0 : LV) (a1 : LV) : fnEv g c_ip6_Chain [a0, a1] none = F_ip6_Chain g a0 a1 := by kernel_rfl

/-- interpreter/ip6.pieced -/
noncomputable def F_ip6_pieced (g : Call) (a0 : LV) : Option (LV × Option LV) :=
 (pr.box a0).bind fun t1_0 =>
 (pr.fieldAddr 9 39 t1_0).bind fun t3_2 =>
 (pr.load 1 false noSlots t3_2).bind fun t4_3 =>
 (pr.un .not t4_3).bind fun t5_4 =>
 (pr.guard t5_4 false).bind fun b6 =>
 (if b6 = true then pr.fieldAddr 11 41 t1_0 else some LV.undef).bind fun t7_6 =>
 (pr.guard t5_4 false).bind fun b7 =>
 (if b7 = true then pr.load 1 false noSlots t7_6 else some LV.undef).bind fun t8_7 =>
 (pr.guard t5_4 false).bind fun b8 =>
 (if b8 = true then pr.bin .neq t8_7 (LV.str []) else some LV.undef).bind fun t9_8 =>
 (pr.guard t5_4 false).bind fun b9 =>
 (if b9 = true then some t9_8 else some LV.undef).bind fun t10_9 =>
 (pr.guard t10_9 true).bind fun b10 =>
 (if b10 = true then pr.fieldAddr 11 41 t1_0 else some LV.undef).bind fun t11_10 =>
 (pr.guard t10_9 true).bind fun b11 =>
 (if b11 = true then pr.load 1 false noSlots t11_10 else some LV.undef).bind fun t12_11 =>
 (pr.guard t10_9 true).bind fun b12 =>
 (if b12 = true then pr.len true t12_11 else some LV.undef).bind fun t13_12 =>
 (pr.guard t10_9 true).bind fun b13 =>
 (if b13 = true then pr.bin .rem t13_12 (LV.int .i64 8) else some LV.undef).bind fun t14_13 =>
 (pr.guard t10_9 true).bind fun b14 =>
 (if b14 = true then pr.bin .eql t14_13 (LV.int .i64 0) else some LV.undef).bind fun t15_14 =>
 (pr.guard t5_4 false).bind fun b15 =>
 (if b15 = true then pr.pick t10_9 t15_14 (LV.bool false) else some LV.undef).bind fun t16_15 =>
 (pr.pick t5_4 (LV.bool true) t16_15).bind fun t17_16 =>
 pr.fin none noSlots [t17_16]
theorem F_ip6_pieced_eq (g : Call) (a0 : LV) : fnEv g c_ip6_pieced [a0] none = F_ip6_pieced g a0 := by kernel_rfl

/-- interpreter/ip4.byteful -/
noncomputable def F_ip4_byteful (g : Call) (a0 : LV) : Option (LV × Option LV) :=
 (pr.len false a0).bind fun t6_2 =>
 (whileW (fun q4 : List LV × Slots =>
 (pr.bin .lss (getL q4.1 1) t6_2).bind fun t8_5 =>
 condK t8_5 (
 (pr.idxAddr none 1 a0 (getL q4.1 1)).bind fun t9_6 =>
 (pr.load 1 false q4.2 t9_6).bind fun t10_7 =>
 (pr.bin .lss t10_7 (LV.int .i64 0)).bind fun t12_10 =>
 (pr.guard t12_10 false).bind fun b12 =>
 (if b12 = true then some t10_7 else some LV.undef).bind fun t14_12 =>
 (pr.guard t12_10 false).bind fun b13 =>
 (if b13 = true then pr.bin .gtr t14_12 (LV.int .i64 255) else some LV.undef).bind fun t15_13 =>
 (pr.pick t12_10 (LV.bool true) t15_13).bind fun t16_14 =>
 condK t16_14 (
 pr.round noSlots .ret [(LV.bool false), (getL q4.1 1)] q4.2) (
 (pr.bin .add (getL q4.1 1) (LV.int .i64 1)).bind fun t17_16 =>
 pr.round noSlots .normal [(getL q4.1 0), t17_16] q4.2)) (
 pr.round noSlots (.exit 0) [(getL q4.1 0), (getL q4.1 1)] q4.2)) ([(LV.bool false), (LV.int .i64 0)], noSlots)).bind fun r4 =>
 exIf r4.1 (.exit 0) (
 pr.fin none r4.2.2 [(LV.bool true)]) (exIf r4.1 .ret (
 pr.fin none r4.2.2 [(getL r4.2.1 0)]) (none))
theorem F_ip4_byteful_eq (g : Call) (a0 : LV) : fnEv g c_ip4_byteful [a0] none = F_ip4_byteful g a0 := by kernel_rfl

/-- interpreter/num.Big -/
noncomputable def F_num_Big (g : Call) (a0 : LV) (a1 : LV) : Option (LV × Option LV) :=
 (pr.bin .neq a1 (LV.int .i64 1)).bind fun t10_3 =>
 (pr.guard t10_3 true).bind fun b5 =>
 (if b5 = true then some a1 else some LV.undef).bind fun t12_5 =>
 (pr.guard t10_3 true).bind fun b6 =>
 (if b6 = true then pr.bin .neq t12_5 (LV.int .i64 2) else some LV.undef).bind fun t13_6 =>
 (pr.pick t10_3 t13_6 (LV.bool false)).bind fun t14_7 =>
 (pr.guard t14_7 true).bind fun b9 =>
 (if b9 = true then some a1 else some LV.undef).bind fun t16_9 =>
 (pr.guard t14_7 true).bind fun b10 =>
 (if b10 = true then pr.bin .neq t16_9 (LV.int .i64 4) else some LV.undef).bind fun t17_10 =>
 (pr.pick t14_7 t17_10 (LV.bool false)).bind fun t18_11 =>
 condK t18_11 (
 (pr.parts (LV.agg [(LV.int .i64 0), (LV.int .i64 0)]) [(0, (LV.int .i64 1))]).bind fun t19_13 =>
 (pr.box t19_13).bind fun t20_14 =>
 (pr.iface ty_ptr_num_Fault t20_14).bind fun t21_15 =>
 pr.fin none noSlots [(LV.str []), t21_15]) (
 (pr.bin .lss a0 (LV.int .i64 0)).bind fun t24_19 =>
 (pr.guard t24_19 false).bind fun b21 =>
 (if b21 = true then some a0 else some LV.undef).bind fun t26_21 =>
 (pr.guard t24_19 false).bind fun b22 =>
 (if b22 = true then some a1 else some LV.undef).bind fun t27_22 =>
 (pr.guard t24_19 false).bind fun b23 =>
 (if b23 = true then pr.bin .mul (LV.int .i64 8) t27_22 else some LV.undef).bind fun t28_23 =>
 (pr.guard t24_19 false).bind fun b24 =>
 (if b24 = true then pr.bin .shl (LV.int .i64 1) t28_23 else some LV.undef).bind fun t29_24 =>
 (pr.guard t24_19 false).bind fun b25 =>
 (if b25 = true then pr.bin .geq t26_21 t29_24 else some LV.undef).bind fun t30_25 =>
 (pr.pick t24_19 (LV.bool true) t30_25).bind fun t31_26 =>
 condK t31_26 (
 (pr.parts (LV.agg [(LV.int .i64 0), (LV.int .i64 0)]) [(0, (LV.int .i64 13))]).bind fun t32_28 =>
 (pr.box t32_28).bind fun t33_29 =>
 (pr.iface ty_ptr_num_Fault t33_29).bind fun t34_30 =>
 pr.fin none noSlots [(LV.str []), t34_30]) (
 (pr.mkSl 36 noSlots a1 a1).bind fun t36_34 =>
 (whileW (fun q38 : List LV × Slots =>
 (pr.bin .lss (getL q38.1 0) a1).bind fun t39_39 =>
 condK t39_39 (
 (pr.bin .sub a1 (LV.int .i64 1)).bind fun t45_46 =>
 (pr.bin .sub t45_46 (getL q38.1 0)).bind fun t47_48 =>
 (pr.bin .mul (LV.int .i64 8) t47_48).bind fun t48_49 =>
 (pr.bin .shr a0 t48_49).bind fun t49_50 =>
 (pr.conv .u8 t49_50).bind fun t50_51 =>
 (pr.idxAddr none 1 t36_34.1 (getL q38.1 0)).bind fun t51_52 =>
 (pr.store 1 false q38.2 t51_52 t50_51).bind fun u53 =>
 (pr.bin .add (getL q38.1 0) (LV.int .i64 1)).bind fun t52_54 =>
 pr.round t36_34.2 .normal [t52_54] u53.2) (
 pr.round t36_34.2 (.exit 1) [(getL q38.1 0)] q38.2)) ([(LV.int .i64 0)], t36_34.2)).bind fun r38 =>
 exIf r38.1 (.exit 1) (
 (pr.b2s r38.2.2 t36_34.1).bind fun t54_57 =>
 pr.fin none r38.2.2 [t54_57, LV.nili]) (none)))
theorem F_num_Big_eq (g : Call) (a0 : LV) (a1 : LV) : fnEv g c_num_Big [a0, a1] none = F_num_Big g a0 a1 := by kernel_rfl

/-- interpreter/sum.fold -/
noncomputable def F_sum_fold (g : Call) (a0 : LV) : Option (LV × Option LV) :=
 (whileW (fun q1 : List LV × Slots =>
 (pr.bin .gtr (getL q1.1 0) (LV.int .i64 65535)).bind fun t4_3 =>
 condK t4_3 (
 (pr.bin .shr (getL q1.1 0) (LV.int .u64 16)).bind fun t6_5 =>
 (pr.bin .and (getL q1.1 0) (LV.int .i64 65535)).bind fun t8_7 =>
 (pr.bin .add t6_5 t8_7).bind fun t9_8 =>
 pr.round noSlots .normal [t9_8] q1.2) (
 pr.round noSlots (.exit 0) [(getL q1.1 0)] q1.2)) ([a0], noSlots)).bind fun r1 =>
 exIf r1.1 (.exit 0) (
 pr.fin none r1.2.2 [(getL r1.2.1 0)]) (none)
theorem F_sum_fold_eq (g : Call) (a0 : LV) : fnEv g c_sum_fold [a0] none = F_sum_fold g a0 := by kernel_rfl

/-- interpreter/sum.add -/
noncomputable def F_sum_add (g : Call) (a0 : LV) (a1 : LV) (a2 : LV) (a3 : LV) : Option (LV × Option LV) :=
 (pr.len true a2).bind fun t12_2 =>
 (whileW (fun q4 : List LV × Slots =>
 (pr.bin .lss (getL q4.1 1) t12_2).bind fun t14_5 =>
 condK t14_5 (
 (pr.idxStr a2 (getL q4.1 1)).bind fun t18_10 =>
 (pr.bin .xor t18_10 a3).bind fun t20_12 =>
 (pr.conv .i64 t20_12).bind fun t21_13 =>
 (pr.bin .add a1 (getL q4.1 1)).bind fun t24_17 =>
 (pr.bin .rem t24_17 (LV.int .i64 2)).bind fun t25_18 =>
 (pr.bin .eql t25_18 (LV.int .i64 0)).bind fun t26_19 =>
 condK t26_19 (
 (pr.bin .shl t21_13 (LV.int .u64 8)).bind fun t28_21 =>
 (pr.bin .add (getL q4.1 0) t28_21).bind fun t31_25 =>
 (pr.bin .add (getL q4.1 1) (LV.int .i64 1)).bind fun t32_27 =>
 pr.round noSlots .normal [t31_25, t32_27] q4.2) (
 (pr.bin .add (getL q4.1 0) t21_13).bind fun t31_31 =>
 (pr.bin .add (getL q4.1 1) (LV.int .i64 1)).bind fun t32_33 =>
 pr.round noSlots .normal [t31_31, t32_33] q4.2)) (
 pr.round noSlots (.exit 0) [(getL q4.1 0), (getL q4.1 1)] q4.2)) ([a0, (LV.int .i64 0)], noSlots)).bind fun r4 =>
 exIf r4.1 (.exit 0) (
 pr.fin none r4.2.2 [(getL r4.2.1 0)]) (none)
theorem F_sum_add_eq (g : Call) (a0 : LV) (a1 : LV) (a2 : LV) (a3 : LV) : fnEv g c_sum_add [a0, a1, a2, a3] none = F_sum_add g a0 a1 a2 a3 := by kernel_rfl

/-- interpreter/ip6.within -/
noncomputable def F_ip6_within (g : Call) (a0 : LV) (a1 : LV) : Option (LV × Option LV) :=
 (pr.bin .geq a0 (LV.int .i64 0)).bind fun t6_2 =>
 (pr.guard t6_2 true).bind fun b4 =>
 (if b4 = true then some a0 else some LV.undef).bind fun t8_4 =>
 (pr.guard t6_2 true).bind fun b5 =>
 (if b5 = true then some a1 else some LV.undef).bind fun t9_5 =>
 (pr.guard t6_2 true).bind fun b6 =>
 (if b6 = true then pr.bin .leq t8_4 t9_5 else some LV.undef).bind fun t10_6 =>
 (pr.pick t6_2 t10_6 (LV.bool false)).bind fun t11_7 =>
 pr.fin none noSlots [t11_7]
theorem F_ip6_within_eq (g : Call) (a0 : LV) (a1 : LV) : fnEv g c_ip6_within [a0, a1] none = F_ip6_within g a0 a1 := by kernel_rfl

/-- interpreter/ip6.kinds -/
noncomputable def F_ip6_kinds (g : Call) (a0 : LV) : Option (LV × Option LV) :=
 (pr.box a0).bind fun t1_0 =>
 (pr.fieldAddr 5 35 t1_0).bind fun t5_2 =>
 (pr.load 1 false noSlots t5_2).bind fun t6_3 =>
 (pr.len false t6_3).bind fun t7_4 =>
 (whileW (fun q6 : List LV × Slots =>
 (pr.bin .lss (getL q6.1 1) t7_4).bind fun t9_7 =>
 condK t9_7 (
 (pr.idxAddr none 2 t6_3 (getL q6.1 1)).bind fun t10_8 =>
 (pr.load 2 true q6.2 t10_8).bind fun t11_9 =>
 (pr.alloc (LV.agg [(LV.int .i64 0), (LV.str [])]) 4 q6.2).bind fun t4_10 =>
 (pr.store 2 true t4_10.2 t4_10.1 t11_9).bind fun u11 =>
 (pr.fieldAddr 0 0 t4_10.1).bind fun t12_12 =>
 (pr.load 1 false u11.2 t12_12).bind fun t13_13 =>
 (pr.call g id_ip6_extends u11.2 [t13_13]).bind fun t14_14 =>
 (pr.un .not t14_14).bind fun t15_15 =>
 condK t15_15 (
 pr.round noSlots .ret [(LV.bool false), (getL q6.1 1)] u11.2) (
 (pr.bin .add (getL q6.1 1) (LV.int .i64 1)).bind fun t16_17 =>
 pr.round noSlots .normal [(getL q6.1 0), t16_17] u11.2)) (
 pr.round noSlots (.exit 0) [(getL q6.1 0), (getL q6.1 1)] q6.2)) ([(LV.bool false), (LV.int .i64 0)], noSlots)).bind fun r6 =>
 exIf r6.1 (.exit 0) (
 (pr.fieldAddr 6 36 t1_0).bind fun t17_19 =>
 (pr.load 1 false r6.2.2 t17_19).bind fun t18_20 =>
 (pr.guard t18_20 false).bind fun b22 =>
 (if b22 = true then pr.fieldAddr 10 40 t1_0 else some LV.undef).bind fun t20_22 =>
 (pr.guard t18_20 false).bind fun b23 =>
 (if b23 = true then pr.load 1 false r6.2.2 t20_22 else some LV.undef).bind fun t21_23 =>
 (pr.guard t18_20 false).bind fun b24 =>
 (if b24 = true then pr.call g id_ip6_extends r6.2.2 [t21_23] else some LV.undef).bind fun t22_24 =>
 (pr.guard t18_20 false).bind fun b25 =>
 (if b25 = true then pr.un .not t22_24 else some LV.undef).bind fun t23_25 =>
 (pr.guard t18_20 false).bind fun b26 =>
 (if b26 = true then some t23_25 else some LV.undef).bind fun t24_26 =>
 (pr.guard t24_26 true).bind fun b27 =>
 (if b27 = true then pr.fieldAddr 10 40 t1_0 else some LV.undef).bind fun t25_27 =>
 (pr.guard t24_26 true).bind fun b28 =>
 (if b28 = true then pr.load 1 false r6.2.2 t25_27 else some LV.undef).bind fun t26_28 =>
 (pr.guard t24_26 true).bind fun b29 =>
 (if b29 = true then pr.bin .neq t26_28 (LV.int .i64 44) else some LV.undef).bind fun t27_29 =>
 (pr.guard t18_20 false).bind fun b30 =>
 (if b30 = true then pr.pick t24_26 t27_29 (LV.bool false) else some LV.undef).bind fun t28_30 =>
 (pr.pick t18_20 (LV.bool true) t28_30).bind fun t29_31 =>
 pr.fin none r6.2.2 [t29_31]) (exIf r6.1 .ret (
 pr.fin none r6.2.2 [(getL r6.2.1 0)]) (none))
theorem F_ip6_kinds_eq (g : Call) (a0 : LV) : fnEv g c_ip6_kinds [a0] none = F_ip6_kinds g a0 := by kernel_rfl

/-- interpreter/ip6.formed -/
noncomputable def F_ip6_formed (g : Call) (a0 : LV) : Option (LV × Option LV) :=
 (pr.box a0).bind fun t1_0 =>
 (pr.fieldAddr 5 35 t1_0).bind fun t5_2 =>
 (pr.load 1 false noSlots t5_2).bind fun t6_3 =>
 (pr.len false t6_3).bind fun t7_4 =>
 (whileW (fun q6 : List LV × Slots =>
 (pr.bin .lss (getL q6.1 1) t7_4).bind fun t9_7 =>
 condK t9_7 (
 (pr.idxAddr none 2 t6_3 (getL q6.1 1)).bind fun t11_9 =>
 (pr.load 2 true q6.2 t11_9).bind fun t12_10 =>
 (pr.alloc (LV.agg [(LV.int .i64 0), (LV.str [])]) 4 q6.2).bind fun t4_11 =>
 (pr.store 2 true t4_11.2 t4_11.1 t12_10).bind fun u13 =>
 (pr.fieldAddr 1 1 t4_11.1).bind fun t13_14 =>
 (pr.load 1 false u13.2 t13_14).bind fun t14_15 =>
 (pr.len true t14_15).bind fun t15_16 =>
 (pr.bin .rem t15_16 (LV.int .i64 8)).bind fun t16_17 =>
 (pr.bin .neq t16_17 (LV.int .i64 6)).bind fun t17_18 =>
 (pr.guard t17_18 false).bind fun b20 =>
 (if b20 = true then pr.fieldAddr 1 1 t4_11.1 else some LV.undef).bind fun t19_20 =>
 (pr.guard t17_18 false).bind fun b21 =>
 (if b21 = true then pr.load 1 false u13.2 t19_20 else some LV.undef).bind fun t20_21 =>
 (pr.guard t17_18 false).bind fun b22 =>
 (if b22 = true then pr.len true t20_21 else some LV.undef).bind fun t21_22 =>
 (pr.guard t17_18 false).bind fun b23 =>
 (if b23 = true then pr.bin .gtr t21_22 (LV.int .i64 2046) else some LV.undef).bind fun t22_23 =>
 (pr.pick t17_18 (LV.bool true) t22_23).bind fun t23_24 =>
 (pr.guard t23_24 false).bind fun b26 =>
 (if b26 = true then pr.fieldAddr 0 0 t4_11.1 else some LV.undef).bind fun t25_26 =>
 (pr.guard t23_24 false).bind fun b27 =>
 (if b27 = true then pr.load 1 false u13.2 t25_26 else some LV.undef).bind fun t26_27 =>
 (pr.guard t23_24 false).bind fun b28 =>
 (if b28 = true then pr.bin .eql t26_27 (LV.int .i64 0) else some LV.undef).bind fun t27_28 =>
 (pr.guard t23_24 false).bind fun b29 =>
 (if b29 = true then some t27_28 else some LV.undef).bind fun t28_29 =>
 (pr.guard t28_29 true).bind fun b30 =>
 (if b30 = true then some (getL q6.1 1) else some LV.undef).bind fun t29_30 =>
 (pr.guard t28_29 true).bind fun b31 =>
 (if b31 = true then pr.bin .gtr t29_30 (LV.int .i64 0) else some LV.undef).bind fun t30_31 =>
 (pr.guard t23_24 false).bind fun b32 =>
 (if b32 = true then pr.pick t28_29 t30_31 (LV.bool false) else some LV.undef).bind fun t31_32 =>
 (pr.pick t23_24 (LV.bool true) t31_32).bind fun t32_33 =>
 condK t32_33 (
 pr.round noSlots .ret [(LV.bool false), (getL q6.1 1)] u13.2) (
 (pr.bin .add (getL q6.1 1) (LV.int .i64 1)).bind fun t33_35 =>
 pr.round noSlots .normal [(getL q6.1 0), t33_35] u13.2)) (
 pr.round noSlots (.exit 0) [(getL q6.1 0), (getL q6.1 1)] q6.2)) ([(LV.bool false), (LV.int .i64 0)], noSlots)).bind fun r6 =>
 exIf r6.1 (.exit 0) (
 (pr.fieldAddr 6 36 t1_0).bind fun t34_37 =>
 (pr.load 1 false r6.2.2 t34_37).bind fun t35_38 =>
 condK t35_38 (
 (pr.load 42 true r6.2.2 t1_0).bind fun t36_39 =>
 (pr.call g id_ip6_pieced r6.2.2 [t36_39]).bind fun t37_40 =>
 pr.fin none r6.2.2 [t37_40]) (
 (pr.fieldAddr 7 37 t1_0).bind fun t38_42 =>
 (pr.load 1 false r6.2.2 t38_42).bind fun t39_43 =>
 (pr.bin .eql t39_43 (LV.int .u32 0)).bind fun t40_44 =>
 (pr.guard t40_44 true).bind fun b46 =>
 (if b46 = true then pr.fieldAddr 8 38 t1_0 else some LV.undef).bind fun t42_46 =>
 (pr.guard t40_44 true).bind fun b47 =>
 (if b47 = true then pr.load 1 false r6.2.2 t42_46 else some LV.undef).bind fun t43_47 =>
 (pr.guard t40_44 true).bind fun b48 =>
 (if b48 = true then pr.bin .eql t43_47 (LV.int .i64 0) else some LV.undef).bind fun t44_48 =>
 (pr.pick t40_44 t44_48 (LV.bool false)).bind fun t45_49 =>
 (pr.guard t45_49 true).bind fun b51 =>
 (if b51 = true then pr.fieldAddr 9 39 t1_0 else some LV.undef).bind fun t47_51 =>
 (pr.guard t45_49 true).bind fun b52 =>
 (if b52 = true then pr.load 1 false r6.2.2 t47_51 else some LV.undef).bind fun t48_52 =>
 (pr.guard t45_49 true).bind fun b53 =>
 (if b53 = true then pr.un .not t48_52 else some LV.undef).bind fun t49_53 =>
 (pr.pick t45_49 t49_53 (LV.bool false)).bind fun t50_54 =>
 pr.fin none r6.2.2 [t50_54])) (exIf r6.1 .ret (
 pr.fin none r6.2.2 [(getL r6.2.1 0)]) (none))
theorem F_ip6_formed_eq (g : Call) (a0 : LV) : fnEv g c_ip6_formed [a0] none = F_ip6_formed g a0 := by kernel_rfl

/-- interpreter/ip6.size -/
noncomputable def F_ip6_size (g : Call) (a0 : LV) : Option (LV × Option LV) :=
 (pr.box a0).bind fun t1_0 =>
 (pr.fieldAddr 11 41 t1_0).bind fun t6_2 =>
 (pr.load 1 false noSlots t6_2).bind fun t7_3 =>
 (pr.len true t7_3).bind fun t8_4 =>
 (pr.fieldAddr 6 36 t1_0).bind fun t9_6 =>
 (pr.load 1 false noSlots t9_6).bind fun t10_7 =>
 condK t10_7 (
 (pr.bin .add t8_4 (LV.int .i64 8)).bind fun t12_9 =>
 (pr.fieldAddr 5 35 t1_0).bind fun t13_11 =>
 (pr.load 1 false noSlots t13_11).bind fun t14_12 =>
 (pr.len false t14_12).bind fun t15_13 =>
 (whileW (fun q15 : List LV × Slots =>
 (pr.bin .lss (getL q15.1 1) t15_13).bind fun t17_16 =>
 condK t17_16 (
 (pr.idxAddr none 2 t14_12 (getL q15.1 1)).bind fun t18_17 =>
 (pr.load 2 true q15.2 t18_17).bind fun t19_18 =>
 (pr.alloc (LV.agg [(LV.int .i64 0), (LV.str [])]) 5 q15.2).bind fun t5_19 =>
 (pr.store 2 true t5_19.2 t5_19.1 t19_18).bind fun u20 =>
 (pr.fieldAddr 1 1 t5_19.1).bind fun t21_22 =>
 (pr.load 1 false u20.2 t21_22).bind fun t22_23 =>
 (pr.len true t22_23).bind fun t23_24 =>
 (pr.bin .add t23_24 (LV.int .i64 2)).bind fun t24_25 =>
 (pr.bin .add (getL q15.1 0) t24_25).bind fun t25_26 =>
 (pr.bin .add (getL q15.1 1) (LV.int .i64 1)).bind fun t26_28 =>
 pr.round noSlots .normal [t25_26, t26_28] u20.2) (
 pr.round noSlots (.exit 0) [(getL q15.1 0), (getL q15.1 1)] q15.2)) ([t12_9, (LV.int .i64 0)], noSlots)).bind fun r15 =>
 exIf r15.1 (.exit 0) (
 pr.fin none r15.2.2 [(getL r15.2.1 0)]) (none)) (
 (pr.fieldAddr 5 35 t1_0).bind fun t13_32 =>
 (pr.load 1 false noSlots t13_32).bind fun t14_33 =>
 (pr.len false t14_33).bind fun t15_34 =>
 (whileW (fun q36 : List LV × Slots =>
 (pr.bin .lss (getL q36.1 1) t15_34).bind fun t17_37 =>
 condK t17_37 (
 (pr.idxAddr none 2 t14_33 (getL q36.1 1)).bind fun t18_38 =>
 (pr.load 2 true q36.2 t18_38).bind fun t19_39 =>
 (pr.alloc (LV.agg [(LV.int .i64 0), (LV.str [])]) 5 q36.2).bind fun t5_40 =>
 (pr.store 2 true t5_40.2 t5_40.1 t19_39).bind fun u41 =>
 (pr.fieldAddr 1 1 t5_40.1).bind fun t21_43 =>
 (pr.load 1 false u41.2 t21_43).bind fun t22_44 =>
 (pr.len true t22_44).bind fun t23_45 =>
 (pr.bin .add t23_45 (LV.int .i64 2)).bind fun t24_46 =>
 (pr.bin .add (getL q36.1 0) t24_46).bind fun t25_47 =>
 (pr.bin .add (getL q36.1 1) (LV.int .i64 1)).bind fun t26_49 =>
 pr.round noSlots .normal [t25_47, t26_49] u41.2) (
 pr.round noSlots (.exit 0) [(getL q36.1 0), (getL q36.1 1)] q36.2)) ([t8_4, (LV.int .i64 0)], noSlots)).bind fun r36 =>
 exIf r36.1 (.exit 0) (
 pr.fin none r36.2.2 [(getL r36.2.1 0)]) (none))
theorem F_ip6_size_eq (g : Call) (a0 : LV) : fnEv g c_ip6_size [a0] none = F_ip6_size g a0 := by kernel_rfl

/-- (*interpreter/num.Reader).number -/
noncomputable def F_num_Reader_number (g : Call) (h : LV) (a1 : LV) : Option (LV × Option LV) :=
 (pr.callRw g id_num_Reader_Text (upd noSlots 0 (.obj 0 h)) [(LV.ptr 0 0 [] 0), a1]).bind fun t13_4 =>
 (pr.extract t13_4.1 0).bind fun t14_6 =>
 (pr.extract t13_4.1 1).bind fun t15_7 =>
 (pr.len true t14_6).bind fun t17_12 =>
 (whileW (fun q14 : List LV × Slots =>
 (pr.bin .lss (getL q14.1 1) t17_12).bind fun t19_15 =>
 condK t19_15 (
 (pr.bin .shl (getL q14.1 0) (LV.int .u64 8)).bind fun t22_19 =>
 (pr.idxStr t14_6 (getL q14.1 1)).bind fun t25_22 =>
 (pr.conv .i64 t25_22).bind fun t26_23 =>
 (pr.bin .or t22_19 t26_23).bind fun t27_24 =>
 (pr.bin .add (getL q14.1 1) (LV.int .i64 1)).bind fun t28_26 =>
 pr.round t13_4.2 .normal [t27_24, t28_26] q14.2) (
 pr.round t13_4.2 (.exit 0) [(getL q14.1 0), (getL q14.1 1)] q14.2)) ([(LV.int .i64 0), (LV.int .i64 0)], t13_4.2)).bind fun r14 =>
 exIf r14.1 (.exit 0) (
 pr.fin (some h) r14.2.2 [(getL r14.2.1 0), t15_7]) (none)
theorem F_num_Reader_number_eq (g : Call) (h : LV) (a1 : LV) : fnEv g c_num_Reader_number [(LV.ptr 0 0 [] 0), a1] (some h) = F_num_Reader_number g h a1 := by kernel_rfl

/-- interpreter/ip6.extends -/
noncomputable def F_ip6_extends (g : Call) (a0 : LV) : Option (LV × Option LV) :=
 (pr.bin .eql a0 (LV.int .i64 0)).bind fun t4_2 =>
 (pr.guard t4_2 false).bind fun b4 =>
 (if b4 = true then some a0 else some LV.undef).bind fun t6_4 =>
 (pr.guard t4_2 false).bind fun b5 =>
 (if b5 = true then pr.bin .eql t6_4 (LV.int .i64 43) else some LV.undef).bind fun t7_5 =>
 (pr.pick t4_2 (LV.bool true) t7_5).bind fun t8_6 =>
 (pr.guard t8_6 false).bind fun b8 =>
 (if b8 = true then some a0 else some LV.undef).bind fun t10_8 =>
 (pr.guard t8_6 false).bind fun b9 =>
 (if b9 = true then pr.bin .eql t10_8 (LV.int .i64 60) else some LV.undef).bind fun t11_9 =>
 (pr.pick t8_6 (LV.bool true) t11_9).bind fun t12_10 =>
 pr.fin none noSlots [t12_10]
theorem F_ip6_extends_eq (g : Call) (a0 : LV) : fnEv g c_ip6_extends [a0] none = F_ip6_extends g a0 := by kernel_rfl

/-- (*interpreter/num.Reader).Text -/
noncomputable def F_num_Reader_Text (g : Call) (h : LV) (a1 : LV) : Option (LV × Option LV) :=
 (pr.eqNil 0 false (LV.ptr 0 0 [] 0)).bind fun t34_3 =>
 condK t34_3 (
 (pr.parts (LV.agg [(LV.int .i64 0), (LV.int .i64 0)]) [(0, (LV.int .i64 2))]).bind fun t35_5 =>
 (pr.box t35_5).bind fun t36_6 =>
 (pr.iface ty_ptr_num_Fault t36_6).bind fun t37_7 =>
 pr.fin (some h) (upd noSlots 0 (.obj 0 h)) [(LV.str []), t37_7]) (
 (pr.nilCheck (LV.ptr 0 0 [] 0)).bind fun t40_11 =>
 (pr.fieldAddr 2 2 t40_11).bind fun t41_12 =>
 (pr.load 1 false (upd noSlots 0 (.obj 0 h)) t41_12).bind fun t42_13 =>
 (pr.eqNil 0 true t42_13).bind fun t43_14 =>
 condK t43_14 (
 (pr.nilCheck (LV.ptr 0 0 [] 0)).bind fun t79_17 =>
 (pr.fieldAddr 2 2 t79_17).bind fun t80_18 =>
 (pr.load 1 false (upd noSlots 0 (.obj 0 h)) t80_18).bind fun t81_19 =>
 (pr.nilCheck t81_19).bind fun t82_20 =>
 (pr.load 2 true (upd noSlots 0 (.obj 0 h)) t82_20).bind fun t83_21 =>
 (pr.alloc (LV.agg [(LV.int .i64 0), (LV.int .i64 0)]) 7 (upd noSlots 0 (.obj 0 h))).bind fun t7_22 =>
 (pr.store 2 true t7_22.2 t7_22.1 t83_21).bind fun u23 =>
 (pr.iface ty_ptr_num_Fault t7_22.1).bind fun t84_24 =>
 pr.fin (some h) u23.2 [(LV.str []), t84_24]) (
 (pr.bin .lss a1 (LV.int .i64 0)).bind fun t46_28 =>
 condK t46_28 (
 (pr.nilCheck (LV.ptr 0 0 [] 0)).bind fun t49_32 =>
 (pr.fieldAddr 1 1 t49_32).bind fun t50_33 =>
 (pr.load 1 false (upd noSlots 0 (.obj 0 h)) t50_33).bind fun t51_34 =>
 (pr.parts (LV.agg [(LV.int .i64 0), (LV.int .i64 0)]) [(0, (LV.int .i64 1)), (1, t51_34)]).bind fun t52_35 =>
 (pr.box t52_35).bind fun t53_36 =>
 (pr.nilCheck (LV.ptr 0 0 [] 0)).bind fun t54_37 =>
 (pr.fieldAddr 2 2 t54_37).bind fun t55_38 =>
 (pr.store 1 false (upd noSlots 0 (.obj 0 h)) t55_38 t53_36).bind fun u39 =>
 (pr.nilCheck (LV.ptr 0 0 [] 0)).bind fun t79_41 =>
 (pr.fieldAddr 2 2 t79_41).bind fun t80_42 =>
 (pr.load 1 false u39.2 t80_42).bind fun t81_43 =>
 (pr.nilCheck t81_43).bind fun t82_44 =>
 (pr.load 2 true u39.2 t82_44).bind fun t83_45 =>
 (pr.alloc (LV.agg [(LV.int .i64 0), (LV.int .i64 0)]) 7 u39.2).bind fun t7_46 =>
 (pr.store 2 true t7_46.2 t7_46.1 t83_45).bind fun u47 =>
 (pr.iface ty_ptr_num_Fault t7_46.1).bind fun t84_48 =>
 pr.fin (some h) u47.2 [(LV.str []), t84_48]) (
 (pr.nilCheck (LV.ptr 0 0 [] 0)).bind fun t59_53 =>
 (pr.fieldAddr 0 0 t59_53).bind fun t60_54 =>
 (pr.load 1 false (upd noSlots 0 (.obj 0 h)) t60_54).bind fun t61_55 =>
 (pr.len true t61_55).bind fun t62_56 =>
 (pr.nilCheck (LV.ptr 0 0 [] 0)).bind fun t64_58 =>
 (pr.fieldAddr 1 1 t64_58).bind fun t65_59 =>
 (pr.load 1 false (upd noSlots 0 (.obj 0 h)) t65_59).bind fun t66_60 =>
 (pr.bin .sub t62_56 t66_60).bind fun t67_61 =>
 (pr.bin .gtr a1 t67_61).bind fun t68_62 =>
 condK t68_62 (
 (pr.nilCheck (LV.ptr 0 0 [] 0)).bind fun t71_66 =>
 (pr.fieldAddr 1 1 t71_66).bind fun t72_67 =>
 (pr.load 1 false (upd noSlots 0 (.obj 0 h)) t72_67).bind fun t73_68 =>
 (pr.parts (LV.agg [(LV.int .i64 0), (LV.int .i64 0)]) [(0, (LV.int .i64 7)), (1, t73_68)]).bind fun t74_69 =>
 (pr.box t74_69).bind fun t75_70 =>
 (pr.nilCheck (LV.ptr 0 0 [] 0)).bind fun t76_71 =>
 (pr.fieldAddr 2 2 t76_71).bind fun t77_72 =>
 (pr.store 1 false (upd noSlots 0 (.obj 0 h)) t77_72 t75_70).bind fun u73 =>
 (pr.nilCheck (LV.ptr 0 0 [] 0)).bind fun t79_75 =>
 (pr.fieldAddr 2 2 t79_75).bind fun t80_76 =>
 (pr.load 1 false u73.2 t80_76).bind fun t81_77 =>
 (pr.nilCheck t81_77).bind fun t82_78 =>
 (pr.load 2 true u73.2 t82_78).bind fun t83_79 =>
 (pr.alloc (LV.agg [(LV.int .i64 0), (LV.int .i64 0)]) 7 u73.2).bind fun t7_80 =>
 (pr.store 2 true t7_80.2 t7_80.1 t83_79).bind fun u81 =>
 (pr.iface ty_ptr_num_Fault t7_80.1).bind fun t84_82 =>
 pr.fin (some h) u81.2 [(LV.str []), t84_82]) (
 (pr.nilCheck (LV.ptr 0 0 [] 0)).bind fun t9_86 =>
 (pr.fieldAddr 0 0 t9_86).bind fun t10_87 =>
 (pr.load 1 false (upd noSlots 0 (.obj 0 h)) t10_87).bind fun t11_88 =>
 (pr.nilCheck (LV.ptr 0 0 [] 0)).bind fun t13_90 =>
 (pr.fieldAddr 1 1 t13_90).bind fun t14_91 =>
 (pr.load 1 false (upd noSlots 0 (.obj 0 h)) t14_91).bind fun t15_92 =>
 (pr.nilCheck (LV.ptr 0 0 [] 0)).bind fun t17_94 =>
 (pr.fieldAddr 1 1 t17_94).bind fun t18_95 =>
 (pr.load 1 false (upd noSlots 0 (.obj 0 h)) t18_95).bind fun t19_96 =>
 (pr.bin .add t19_96 a1).bind fun t21_98 =>
 (pr.slc 0 t11_88 (some t15_92) (some t21_98)).bind fun t22_99 =>
 (pr.nilCheck (LV.ptr 0 0 [] 0)).bind fun t24_102 =>
 (pr.fieldAddr 1 1 t24_102).bind fun t25_103 =>
 (pr.load 1 false (upd noSlots 0 (.obj 0 h)) t25_103).bind fun t26_104 =>
 (pr.bin .add t26_104 a1).bind fun t28_106 =>
 (pr.nilCheck (LV.ptr 0 0 [] 0)).bind fun t29_107 =>
 (pr.fieldAddr 1 1 t29_107).bind fun t30_108 =>
 (pr.store 1 false (upd noSlots 0 (.obj 0 h)) t30_108 t28_106).bind fun u109 =>
 pr.fin (some h) u109.2 [t22_99, LV.nili]))))
theorem F_num_Reader_Text_eq (g : Call) (h : LV) (a1 : LV) : fnEv g c_num_Reader_Text [(LV.ptr 0 0 [] 0), a1] (some h) = F_num_Reader_Text g h a1 := by kernel_rfl


end Go.Ev

/- Which functions are known. -/
namespace Go.Ev
structure Has (S : Sys) : Prop where
  h_interpreterlaw17_RefragFour : S.fns id_interpreterlaw17_RefragFour = some c_interpreterlaw17_RefragFour
  h_interpreterlaw17_RefragSix : S.fns id_interpreterlaw17_RefragSix = some c_interpreterlaw17_RefragSix
  h_interpreterlaw17_RefragAgain : S.fns id_interpreterlaw17_RefragAgain = some c_interpreterlaw17_RefragAgain
  h_interpreterlaw17_RefragKnown : S.fns id_interpreterlaw17_RefragKnown = some c_interpreterlaw17_RefragKnown
  h_interpreterlaw17_Great4 : S.fns id_interpreterlaw17_Great4 = some c_interpreterlaw17_Great4
  h_interpreterlaw17_wakes : S.fns id_interpreterlaw17_wakes = some c_interpreterlaw17_wakes
  h_refrag_Cut4 : S.fns id_refrag_Cut4 = some c_refrag_Cut4
  h_ip4_Bytes : S.fns id_ip4_Bytes = some c_ip4_Bytes
  h_refrag_Len4 : S.fns id_refrag_Len4 = some c_refrag_Len4
  h_interpreterref17_Cut4 : S.fns id_interpreterref17_Cut4 = some c_interpreterref17_Cut4
  h_interpreterref17_Head4 : S.fns id_interpreterref17_Head4 = some c_interpreterref17_Head4
  h_interpreterlaw17_Great6 : S.fns id_interpreterlaw17_Great6 = some c_interpreterlaw17_Great6
  h_refrag_Cut6 : S.fns id_refrag_Cut6 = some c_refrag_Cut6
  h_ip6_Bytes : S.fns id_ip6_Bytes = some c_ip6_Bytes
  h_refrag_Len6 : S.fns id_refrag_Len6 = some c_refrag_Len6
  h_interpreterref17_Cut6 : S.fns id_interpreterref17_Cut6 = some c_interpreterref17_Cut6
  h_interpreterref17_Head6 : S.fns id_interpreterref17_Head6 = some c_interpreterref17_Head6
  h_interpreterlaw17_same6 : S.fns id_interpreterlaw17_same6 = some c_interpreterlaw17_same6
  h_interpreterlaw17_four : S.fns id_interpreterlaw17_four = some c_interpreterlaw17_four
  h_interpreterlaw17_six : S.fns id_interpreterlaw17_six = some c_interpreterlaw17_six
  h_ip4_Parse : S.fns id_ip4_Parse = some c_ip4_Parse
  h_ip6_Parse : S.fns id_ip6_Parse = some c_ip6_Parse
  h_refrag_pieces : S.fns id_refrag_pieces = some c_refrag_pieces
  h_ip4_why : S.fns id_ip4_why = some c_ip4_why
  h_ip4_fault : S.fns id_ip4_fault = some c_ip4_fault
  h_ip4_big : S.fns id_ip4_big = some c_ip4_big
  h_sum_Of : S.fns id_sum_Of = some c_sum_Of
  h_interpreterref17_Room : S.fns id_interpreterref17_Room = some c_interpreterref17_Room
  h_slices_Clone_api_Ext_api_Ext : S.fns id_slices_Clone_api_Ext_api_Ext = some c_slices_Clone_api_Ext_api_Ext
  h_ip6_why : S.fns id_ip6_why = some c_ip6_why
  h_ip6_fault : S.fns id_ip6_fault = some c_ip6_fault
  h_ip6_big : S.fns id_ip6_big = some c_ip6_big
  h_sum_Right : S.fns id_sum_Right = some c_sum_Right
  h_ip4_Parse_1 : S.fns id_ip4_Parse_1 = some c_ip4_Parse_1
  h_num_New : S.fns id_num_New = some c_num_New
  h_num_Reader_U32 : S.fns id_num_Reader_U32 = some c_num_Reader_U32
  h_ip6_Chain : S.fns id_ip6_Chain = some c_ip6_Chain
  h_ip6_pieced : S.fns id_ip6_pieced = some c_ip6_pieced
  h_ip4_byteful : S.fns id_ip4_byteful = some c_ip4_byteful
  h_num_Big : S.fns id_num_Big = some c_num_Big
  h_sum_fold : S.fns id_sum_fold = some c_sum_fold
  h_sum_add : S.fns id_sum_add = some c_sum_add
  h_ip6_within : S.fns id_ip6_within = some c_ip6_within
  h_ip6_kinds : S.fns id_ip6_kinds = some c_ip6_kinds
  h_ip6_formed : S.fns id_ip6_formed = some c_ip6_formed
  h_ip6_size : S.fns id_ip6_size = some c_ip6_size
  h_num_Reader_number : S.fns id_num_Reader_number = some c_num_Reader_number
  h_ip6_extends : S.fns id_ip6_extends = some c_ip6_extends
  h_num_Reader_Text : S.fns id_num_Reader_Text = some c_num_Reader_Text
abbrev faultLV (c : Int) : LV := .ifc ty_ptr_num_Fault (.box (.agg [.int .i64 c, .int .i64 0]))
end Go.Ev

/- The system of this seat. -/
namespace Go.Ev
set_option maxRecDepth 100000
def table : List (Nat × MFn) := [
  (id_interpreterlaw17_RefragFour, c_interpreterlaw17_RefragFour),
  (id_interpreterlaw17_RefragSix, c_interpreterlaw17_RefragSix),
  (id_interpreterlaw17_RefragAgain, c_interpreterlaw17_RefragAgain),
  (id_interpreterlaw17_RefragKnown, c_interpreterlaw17_RefragKnown),
  (id_interpreterlaw17_Great4, c_interpreterlaw17_Great4),
  (id_interpreterlaw17_wakes, c_interpreterlaw17_wakes),
  (id_refrag_Cut4, c_refrag_Cut4),
  (id_ip4_Bytes, c_ip4_Bytes),
  (id_refrag_Len4, c_refrag_Len4),
  (id_interpreterref17_Cut4, c_interpreterref17_Cut4),
  (id_interpreterref17_Head4, c_interpreterref17_Head4),
  (id_interpreterlaw17_Great6, c_interpreterlaw17_Great6),
  (id_refrag_Cut6, c_refrag_Cut6),
  (id_ip6_Bytes, c_ip6_Bytes),
  (id_refrag_Len6, c_refrag_Len6),
  (id_interpreterref17_Cut6, c_interpreterref17_Cut6),
  (id_interpreterref17_Head6, c_interpreterref17_Head6),
  (id_interpreterlaw17_same6, c_interpreterlaw17_same6),
  (id_interpreterlaw17_four, c_interpreterlaw17_four),
  (id_interpreterlaw17_six, c_interpreterlaw17_six),
  (id_ip4_Parse, c_ip4_Parse),
  (id_ip6_Parse, c_ip6_Parse),
  (id_refrag_pieces, c_refrag_pieces),
  (id_ip4_why, c_ip4_why),
  (id_ip4_fault, c_ip4_fault),
  (id_ip4_big, c_ip4_big),
  (id_sum_Of, c_sum_Of),
  (id_interpreterref17_Room, c_interpreterref17_Room),
  (id_slices_Clone_api_Ext_api_Ext, c_slices_Clone_api_Ext_api_Ext),
  (id_ip6_why, c_ip6_why),
  (id_ip6_fault, c_ip6_fault),
  (id_ip6_big, c_ip6_big),
  (id_sum_Right, c_sum_Right),
  (id_ip4_Parse_1, c_ip4_Parse_1),
  (id_num_New, c_num_New),
  (id_num_Reader_U32, c_num_Reader_U32),
  (id_ip6_Chain, c_ip6_Chain),
  (id_ip6_pieced, c_ip6_pieced),
  (id_ip4_byteful, c_ip4_byteful),
  (id_num_Big, c_num_Big),
  (id_sum_fold, c_sum_fold),
  (id_sum_add, c_sum_add),
  (id_ip6_within, c_ip6_within),
  (id_ip6_kinds, c_ip6_kinds),
  (id_ip6_formed, c_ip6_formed),
  (id_ip6_size, c_ip6_size),
  (id_num_Reader_number, c_num_Reader_number),
  (id_ip6_extends, c_ip6_extends),
  (id_num_Reader_Text, c_num_Reader_Text)]
def sys : Sys := { fns := fun f => (table.find? fun p => p.1 == f).map (·.2), ext := fun _ _ _ => none }
theorem sysHas : Has sys where
  h_interpreterlaw17_RefragFour := by kernel_rfl
  h_interpreterlaw17_RefragSix := by kernel_rfl
  h_interpreterlaw17_RefragAgain := by kernel_rfl
  h_interpreterlaw17_RefragKnown := by kernel_rfl
  h_interpreterlaw17_Great4 := by kernel_rfl
  h_interpreterlaw17_wakes := by kernel_rfl
  h_refrag_Cut4 := by kernel_rfl
  h_ip4_Bytes := by kernel_rfl
  h_refrag_Len4 := by kernel_rfl
  h_interpreterref17_Cut4 := by kernel_rfl
  h_interpreterref17_Head4 := by kernel_rfl
  h_interpreterlaw17_Great6 := by kernel_rfl
  h_refrag_Cut6 := by kernel_rfl
  h_ip6_Bytes := by kernel_rfl
  h_refrag_Len6 := by kernel_rfl
  h_interpreterref17_Cut6 := by kernel_rfl
  h_interpreterref17_Head6 := by kernel_rfl
  h_interpreterlaw17_same6 := by kernel_rfl
  h_interpreterlaw17_four := by kernel_rfl
  h_interpreterlaw17_six := by kernel_rfl
  h_ip4_Parse := by kernel_rfl
  h_ip6_Parse := by kernel_rfl
  h_refrag_pieces := by kernel_rfl
  h_ip4_why := by kernel_rfl
  h_ip4_fault := by kernel_rfl
  h_ip4_big := by kernel_rfl
  h_sum_Of := by kernel_rfl
  h_interpreterref17_Room := by kernel_rfl
  h_slices_Clone_api_Ext_api_Ext := by kernel_rfl
  h_ip6_why := by kernel_rfl
  h_ip6_fault := by kernel_rfl
  h_ip6_big := by kernel_rfl
  h_sum_Right := by kernel_rfl
  h_ip4_Parse_1 := by kernel_rfl
  h_num_New := by kernel_rfl
  h_num_Reader_U32 := by kernel_rfl
  h_ip6_Chain := by kernel_rfl
  h_ip6_pieced := by kernel_rfl
  h_ip4_byteful := by kernel_rfl
  h_num_Big := by kernel_rfl
  h_sum_fold := by kernel_rfl
  h_sum_add := by kernel_rfl
  h_ip6_within := by kernel_rfl
  h_ip6_kinds := by kernel_rfl
  h_ip6_formed := by kernel_rfl
  h_ip6_size := by kernel_rfl
  h_num_Reader_number := by kernel_rfl
  h_ip6_extends := by kernel_rfl
  h_num_Reader_Text := by kernel_rfl
end Go.Ev
