/- Part 4 of a proof: what the functions yield. It stands by itself; no condition. -/
import Derived.Test.YtjllbpdljmaeaaaE3
import Derived.KernelRfl
import Derived.Test.YtjllbpdljmaeaaaE2
/- The functions, in plain Lean. -/
namespace Go.Ev
set_option linter.unusedVariables false
set_option maxRecDepth 100000
/-- interpreter/interpreterlaw04.Ip6Reads -/
noncomputable def F_interpreterlaw04_Ip6Reads (g : Call) (a0 : LV) : Option (LV × Option LV) :=
 (pr.call g id_interpreterlaw04_awake noSlots []).bind fun t7_1 =>
 (pr.un .not t7_1).bind fun t8_2 =>
 condK t8_2 (
 pr.fin none noSlots [(LV.bool false)]) (
 (pr.len true a0).bind fun t10_5 =>
 (pr.bin .gtr t10_5 (LV.int .i64 70000)).bind fun t11_6 =>
 condK t11_6 (
 pr.fin none noSlots [(LV.bool true)]) (
 (pr.call g id_ip6_Parse noSlots [a0]).bind fun t14_9 =>
 (pr.extract t14_9 0).bind fun t15_11 =>
 (pr.extract t14_9 1).bind fun t16_12 =>
 (pr.alloc (LV.agg [(LV.int .i64 0), (LV.int .i64 0), (LV.int .i64 0), (LV.bytes [0, 0, 0, 0, 0, 0, 0, 0, 0, 0, 0, 0, 0, 0, 0, 0]), (LV.bytes [0, 0, 0, 0, 0, 0, 0, 0, 0, 0, 0, 0, 0, 0, 0, 0]), LV.nils, (LV.bool false), (LV.int .u32 0), (LV.int .i64 0), (LV.bool false), (LV.int .i64 0), (LV.str [])]) 3 noSlots).bind fun t3_13 =>
 (pr.store 42 true t3_13.2 t3_13.1 t15_11).bind fun u14 =>
 (pr.call g id_interpreterref04_Parse u14.2 [a0]).bind fun t19_17 =>
 (pr.extract t19_17 0).bind fun t20_19 =>
 (pr.extract t19_17 1).bind fun t21_20 =>
 (pr.alloc (LV.agg [(LV.int .i64 0), (LV.int .i64 0), (LV.int .i64 0), (LV.bytes [0, 0, 0, 0, 0, 0, 0, 0, 0, 0, 0, 0, 0, 0, 0, 0]), (LV.bytes [0, 0, 0, 0, 0, 0, 0, 0, 0, 0, 0, 0, 0, 0, 0, 0]), LV.nils, (LV.bool false), (LV.int .u32 0), (LV.int .i64 0), (LV.bool false), (LV.int .i64 0), (LV.str [])]) 5 u14.2).bind fun t5_21 =>
 (pr.store 42 true t5_21.2 t5_21.1 t20_19).bind fun u22 =>
 (pr.load 42 true u22.2 t3_13.1).bind fun t22_24 =>
 (pr.load 42 true u22.2 t5_21.1).bind fun t23_25 =>
 (pr.call g id_interpreterref04_Same u22.2 [t22_24, t23_25]).bind fun t24_26 =>
 (pr.guard t24_26 true).bind fun b28 =>
 (if b28 = true then some t16_12 else some LV.undef).bind fun t26_28 =>
 (pr.guard t24_26 true).bind fun b29 =>
 (if b29 = true then some t21_20 else some LV.undef).bind fun t27_29 =>
 (pr.guard t24_26 true).bind fun b30 =>
 (if b30 = true then pr.call g id_interpreterlaw04_same u22.2 [t26_28, t27_29] else some LV.undef).bind fun t28_30 =>
 (pr.pick t24_26 t28_30 (LV.bool false)).bind fun t29_31 =>
 pr.fin none u22.2 [t29_31]))
theorem F_interpreterlaw04_Ip6Reads_eq (g : Call) (a0 : LV) : fnEv g c_interpreterlaw04_Ip6Reads [a0] none = F_interpreterlaw04_Ip6Reads g a0 := by kernel_rfl

/-- interpreter/interpreterlaw04.Ip6Chains -/
noncomputable def F_interpreterlaw04_Ip6Chains (g : Call) (a0 : LV) (a1 : LV) : Option (LV × Option LV) :=
 (pr.call g id_interpreterlaw04_awake noSlots []).bind fun t13_1 =>
 (pr.un .not t13_1).bind fun t14_2 =>
 condK t14_2 (
 pr.fin none noSlots [(LV.bool false)]) (
 (pr.len true a1).bind fun t16_5 =>
 (pr.bin .gtr t16_5 (LV.int .i64 70000)).bind fun t17_6 =>
 condK t17_6 (
 pr.fin none noSlots [(LV.bool true)]) (
 (pr.call g id_ip6_Chain noSlots [a0, a1]).bind fun t21_10 =>
 (pr.extract t21_10 0).bind fun t22_12 =>
 (pr.extract t21_10 1).bind fun t23_13 =>
 (pr.extract t21_10 2).bind fun t24_14 =>
 (pr.extract t21_10 3).bind fun t25_15 =>
 (pr.call g id_interpreterref04_Chain noSlots [a0, a1]).bind fun t29_22 =>
 (pr.extract t29_22 0).bind fun t30_24 =>
 (pr.extract t29_22 1).bind fun t31_25 =>
 (pr.extract t29_22 2).bind fun t32_26 =>
 (pr.extract t29_22 3).bind fun t33_27 =>
 (pr.parts (LV.agg [(LV.int .i64 0), (LV.int .i64 0), (LV.int .i64 0), (LV.bytes [0, 0, 0, 0, 0, 0, 0, 0, 0, 0, 0, 0, 0, 0, 0, 0]), (LV.bytes [0, 0, 0, 0, 0, 0, 0, 0, 0, 0, 0, 0, 0, 0, 0, 0]), LV.nils, (LV.bool false), (LV.int .u32 0), (LV.int .i64 0), (LV.bool false), (LV.int .i64 0), (LV.str [])]) [(5, t22_12)]).bind fun t35_33 =>
 (pr.parts (LV.agg [(LV.int .i64 0), (LV.int .i64 0), (LV.int .i64 0), (LV.bytes [0, 0, 0, 0, 0, 0, 0, 0, 0, 0, 0, 0, 0, 0, 0, 0]), (LV.bytes [0, 0, 0, 0, 0, 0, 0, 0, 0, 0, 0, 0, 0, 0, 0, 0]), LV.nils, (LV.bool false), (LV.int .u32 0), (LV.int .i64 0), (LV.bool false), (LV.int .i64 0), (LV.str [])]) [(5, t30_24)]).bind fun t37_35 =>
 (pr.call g id_interpreterref04_Same noSlots [t35_33, t37_35]).bind fun t38_36 =>
 (pr.guard t38_36 true).bind fun b38 =>
 (if b38 = true then some t23_13 else some LV.undef).bind fun t40_38 =>
 (pr.guard t38_36 true).bind fun b39 =>
 (if b39 = true then some t31_25 else some LV.undef).bind fun t41_39 =>
 (pr.guard t38_36 true).bind fun b40 =>
 (if b40 = true then pr.bin .eql t40_38 t41_39 else some LV.undef).bind fun t42_40 =>
 (pr.pick t38_36 t42_40 (LV.bool false)).bind fun t43_41 =>
 (pr.guard t43_41 true).bind fun b43 =>
 (if b43 = true then some t24_14 else some LV.undef).bind fun t45_43 =>
 (pr.guard t43_41 true).bind fun b44 =>
 (if b44 = true then some t32_26 else some LV.undef).bind fun t46_44 =>
 (pr.guard t43_41 true).bind fun b45 =>
 (if b45 = true then pr.bin .eql t45_43 t46_44 else some LV.undef).bind fun t47_45 =>
 (pr.pick t43_41 t47_45 (LV.bool false)).bind fun t48_46 =>
 (pr.guard t48_46 true).bind fun b48 =>
 (if b48 = true then some t25_15 else some LV.undef).bind fun t50_48 =>
 (pr.guard t48_46 true).bind fun b49 =>
 (if b49 = true then some t33_27 else some LV.undef).bind fun t51_49 =>
 (pr.guard t48_46 true).bind fun b50 =>
 (if b50 = true then pr.call g id_interpreterlaw04_same noSlots [t50_48, t51_49] else some LV.undef).bind fun t52_50 =>
 (pr.pick t48_46 t52_50 (LV.bool false)).bind fun t53_51 =>
 pr.fin none noSlots [t53_51]))
theorem F_interpreterlaw04_Ip6Chains_eq (g : Call) (a0 : LV) (a1 : LV) : fnEv g c_interpreterlaw04_Ip6Chains [a0, a1] none = F_interpreterlaw04_Ip6Chains g a0 a1 := by kernel_rfl

/-- interpreter/interpreterlaw04.Ip6Back -/
noncomputable def F_interpreterlaw04_Ip6Back (g : Call) (a0 : LV) (a1 : LV) : Option (LV × Option LV) :=
 (pr.box a0).bind fun t2_0 =>
 (pr.call g id_interpreterlaw04_awake noSlots []).bind fun t11_2 =>
 (pr.un .not t11_2).bind fun t12_3 =>
 condK t12_3 (
 pr.fin none noSlots [(LV.bool false)]) (
 (pr.load 42 true noSlots t2_0).bind fun t13_5 =>
 (pr.call g id_interpreterlaw04_Great noSlots [t13_5]).bind fun t14_6 =>
 (pr.guard t14_6 false).bind fun b8 =>
 (if b8 = true then some a1 else some LV.undef).bind fun t16_8 =>
 (pr.guard t14_6 false).bind fun b9 =>
 (if b9 = true then pr.len true t16_8 else some LV.undef).bind fun t17_9 =>
 (pr.guard t14_6 false).bind fun b10 =>
 (if b10 = true then pr.bin .gtr t17_9 (LV.int .i64 1000) else some LV.undef).bind fun t18_10 =>
 (pr.pick t14_6 (LV.bool true) t18_10).bind fun t19_11 =>
 condK t19_11 (
 pr.fin none noSlots [(LV.bool true)]) (
 (pr.load 42 true noSlots t2_0).bind fun t21_13 =>
 (pr.call g id_ip6_Bytes noSlots [t21_13]).bind fun t22_14 =>
 (pr.extract t22_14 0).bind fun t23_16 =>
 (pr.extract t22_14 1).bind fun t24_17 =>
 (pr.eqNil 1 true t24_17).bind fun t26_21 =>
 condK t26_21 (
 (pr.bin .eql t23_16 (LV.str [])).bind fun t28_23 =>
 pr.fin none noSlots [t28_23]) (
 (pr.bin .add t23_16 a1).bind fun t32_27 =>
 (pr.call g id_ip6_Parse noSlots [t32_27]).bind fun t33_28 =>
 (pr.extract t33_28 0).bind fun t34_30 =>
 (pr.extract t33_28 1).bind fun t35_31 =>
 (pr.alloc (LV.agg [(LV.int .i64 0), (LV.int .i64 0), (LV.int .i64 0), (LV.bytes [0, 0, 0, 0, 0, 0, 0, 0, 0, 0, 0, 0, 0, 0, 0, 0]), (LV.bytes [0, 0, 0, 0, 0, 0, 0, 0, 0, 0, 0, 0, 0, 0, 0, 0]), LV.nils, (LV.bool false), (LV.int .u32 0), (LV.int .i64 0), (LV.bool false), (LV.int .i64 0), (LV.str [])]) 7 noSlots).bind fun t7_32 =>
 (pr.store 42 true t7_32.2 t7_32.1 t34_30).bind fun u33 =>
 (pr.len true t23_16).bind fun t39_37 =>
 (pr.bin .sub t39_37 (LV.int .i64 1)).bind fun t40_38 =>
 (pr.slc 0 t23_16 none (some t40_38)).bind fun t41_39 =>
 (pr.call g id_ip6_Parse u33.2 [t41_39]).bind fun t42_40 =>
 (pr.extract t42_40 0).bind fun t43_42 =>
 (pr.extract t42_40 1).bind fun t44_43 =>
 (pr.alloc (LV.agg [(LV.int .i64 0), (LV.int .i64 0), (LV.int .i64 0), (LV.bytes [0, 0, 0, 0, 0, 0, 0, 0, 0, 0, 0, 0, 0, 0, 0, 0]), (LV.bytes [0, 0, 0, 0, 0, 0, 0, 0, 0, 0, 0, 0, 0, 0, 0, 0]), LV.nils, (LV.bool false), (LV.int .u32 0), (LV.int .i64 0), (LV.bool false), (LV.int .i64 0), (LV.str [])]) 9 u33.2).bind fun t9_44 =>
 (pr.store 42 true t9_44.2 t9_44.1 t43_42).bind fun u45 =>
 (pr.eqNil 1 false t35_31).bind fun t46_48 =>
 (pr.guard t46_48 true).bind fun b50 =>
 (if b50 = true then pr.load 42 true u45.2 t2_0 else some LV.undef).bind fun t48_50 =>
 (pr.guard t46_48 true).bind fun b51 =>
 (if b51 = true then pr.load 42 true u45.2 t7_32.1 else some LV.undef).bind fun t49_51 =>
 (pr.guard t46_48 true).bind fun b52 =>
 (if b52 = true then pr.call g id_interpreterref04_Same u45.2 [t48_50, t49_51] else some LV.undef).bind fun t50_52 =>
 (pr.pick t46_48 t50_52 (LV.bool false)).bind fun t51_53 =>
 (pr.guard t51_53 true).bind fun b55 =>
 (if b55 = true then some t44_43 else some LV.undef).bind fun t53_55 =>
 (pr.guard t51_53 true).bind fun b56 =>
 (if b56 = true then pr.eqNil 1 true t53_55 else some LV.undef).bind fun t54_56 =>
 (pr.pick t51_53 t54_56 (LV.bool false)).bind fun t55_57 =>
 (pr.guard t55_57 true).bind fun b59 =>
 (if b59 = true then some t23_16 else some LV.undef).bind fun t57_59 =>
 (pr.guard t55_57 true).bind fun b60 =>
 (if b60 = true then pr.len true t57_59 else some LV.undef).bind fun t58_60 =>
 (pr.guard t55_57 true).bind fun b61 =>
 (if b61 = true then pr.fieldAddr 11 41 t2_0 else some LV.undef).bind fun t59_61 =>
 (pr.guard t55_57 true).bind fun b62 =>
 (if b62 = true then pr.load 1 false u45.2 t59_61 else some LV.undef).bind fun t60_62 =>
 (pr.guard t55_57 true).bind fun b63 =>
 (if b63 = true then pr.len true t60_62 else some LV.undef).bind fun t61_63 =>
 (pr.guard t55_57 true).bind fun b64 =>
 (if b64 = true then pr.bin .add (LV.int .i64 40) t61_63 else some LV.undef).bind fun t62_64 =>
 (pr.guard t55_57 true).bind fun b65 =>
 (if b65 = true then pr.bin .geq t58_60 t62_64 else some LV.undef).bind fun t63_65 =>
 (pr.pick t55_57 t63_65 (LV.bool false)).bind fun t64_66 =>
 (pr.guard t64_66 true).bind fun b68 =>
 (if b68 = true then some t23_16 else some LV.undef).bind fun t66_68 =>
 (pr.guard t64_66 true).bind fun b69 =>
 (if b69 = true then some t23_16 else some LV.undef).bind fun t67_69 =>
 (pr.guard t64_66 true).bind fun b70 =>
 (if b70 = true then pr.len true t67_69 else some LV.undef).bind fun t68_70 =>
 (pr.guard t64_66 true).bind fun b71 =>
 (if b71 = true then pr.fieldAddr 11 41 t2_0 else some LV.undef).bind fun t69_71 =>
 (pr.guard t64_66 true).bind fun b72 =>
 (if b72 = true then pr.load 1 false u45.2 t69_71 else some LV.undef).bind fun t70_72 =>
 (pr.guard t64_66 true).bind fun b73 =>
 (if b73 = true then pr.len true t70_72 else some LV.undef).bind fun t71_73 =>
 (pr.guard t64_66 true).bind fun b74 =>
 (if b74 = true then pr.bin .sub t68_70 t71_73 else some LV.undef).bind fun t72_74 =>
 (pr.guard t64_66 true).bind fun b75 =>
 (if b75 = true then pr.slc 0 t66_68 (some t72_74) none else some LV.undef).bind fun t73_75 =>
 (pr.guard t64_66 true).bind fun b76 =>
 (if b76 = true then pr.fieldAddr 11 41 t2_0 else some LV.undef).bind fun t74_76 =>
 (pr.guard t64_66 true).bind fun b77 =>
 (if b77 = true then pr.load 1 false u45.2 t74_76 else some LV.undef).bind fun t75_77 =>
 (pr.guard t64_66 true).bind fun b78 =>
 (if b78 = true then pr.bin .eql t73_75 t75_77 else some LV.undef).bind fun t76_78 =>
 (pr.pick t64_66 t76_78 (LV.bool false)).bind fun t77_79 =>
 pr.fin none u45.2 [t77_79])))
theorem F_interpreterlaw04_Ip6Back_eq (g : Call) (a0 : LV) (a1 : LV) : fnEv g c_interpreterlaw04_Ip6Back [a0, a1] none = F_interpreterlaw04_Ip6Back g a0 a1 := by kernel_rfl

/-- interpreter/interpreterlaw04.Ip6Again -/
noncomputable def F_interpreterlaw04_Ip6Again (g : Call) (a0 : LV) : Option (LV × Option LV) :=
 (pr.call g id_interpreterlaw04_awake noSlots []).bind fun t9_1 =>
 (pr.un .not t9_1).bind fun t10_2 =>
 condK t10_2 (
 pr.fin none noSlots [(LV.bool false)]) (
 (pr.len true a0).bind fun t12_5 =>
 (pr.bin .gtr t12_5 (LV.int .i64 70000)).bind fun t13_6 =>
 condK t13_6 (
 pr.fin none noSlots [(LV.bool true)]) (
 (pr.call g id_ip6_Parse noSlots [a0]).bind fun t16_9 =>
 (pr.extract t16_9 0).bind fun t17_11 =>
 (pr.extract t16_9 1).bind fun t18_12 =>
 (pr.alloc (LV.agg [(LV.int .i64 0), (LV.int .i64 0), (LV.int .i64 0), (LV.bytes [0, 0, 0, 0, 0, 0, 0, 0, 0, 0, 0, 0, 0, 0, 0, 0]), (LV.bytes [0, 0, 0, 0, 0, 0, 0, 0, 0, 0, 0, 0, 0, 0, 0, 0]), LV.nils, (LV.bool false), (LV.int .u32 0), (LV.int .i64 0), (LV.bool false), (LV.int .i64 0), (LV.str [])]) 3 noSlots).bind fun t3_13 =>
 (pr.store 42 true t3_13.2 t3_13.1 t17_11).bind fun u14 =>
 (pr.eqNil 1 true t18_12).bind fun t20_17 =>
 condK t20_17 (
 (pr.load 42 true u14.2 t3_13.1).bind fun t21_18 =>
 (pr.parts (LV.agg [(LV.int .i64 0), (LV.int .i64 0), (LV.int .i64 0), (LV.bytes [0, 0, 0, 0, 0, 0, 0, 0, 0, 0, 0, 0, 0, 0, 0, 0]), (LV.bytes [0, 0, 0, 0, 0, 0, 0, 0, 0, 0, 0, 0, 0, 0, 0, 0]), LV.nils, (LV.bool false), (LV.int .u32 0), (LV.int .i64 0), (LV.bool false), (LV.int .i64 0), (LV.str [])]) []).bind fun t22_19 =>
 (pr.call g id_interpreterref04_Same u14.2 [t21_18, t22_19]).bind fun t23_20 =>
 pr.fin none u14.2 [t23_20]) (
 (pr.load 42 true u14.2 t3_13.1).bind fun t25_22 =>
 (pr.call g id_ip6_Bytes u14.2 [t25_22]).bind fun t26_23 =>
 (pr.extract t26_23 0).bind fun t27_25 =>
 (pr.extract t26_23 1).bind fun t28_26 =>
 (pr.call g id_ip6_Parse u14.2 [t27_25]).bind fun t31_30 =>
 (pr.extract t31_30 0).bind fun t32_32 =>
 (pr.extract t31_30 1).bind fun t33_33 =>
 (pr.alloc (LV.agg [(LV.int .i64 0), (LV.int .i64 0), (LV.int .i64 0), (LV.bytes [0, 0, 0, 0, 0, 0, 0, 0, 0, 0, 0, 0, 0, 0, 0, 0]), (LV.bytes [0, 0, 0, 0, 0, 0, 0, 0, 0, 0, 0, 0, 0, 0, 0, 0]), LV.nils, (LV.bool false), (LV.int .u32 0), (LV.int .i64 0), (LV.bool false), (LV.int .i64 0), (LV.str [])]) 7 u14.2).bind fun t7_34 =>
 (pr.store 42 true t7_34.2 t7_34.1 t32_32).bind fun u35 =>
 (pr.eqNil 1 false t28_26).bind fun t35_38 =>
 (pr.guard t35_38 true).bind fun b40 =>
 (if b40 = true then some t33_33 else some LV.undef).bind fun t37_40 =>
 (pr.guard t35_38 true).bind fun b41 =>
 (if b41 = true then pr.eqNil 1 false t37_40 else some LV.undef).bind fun t38_41 =>
 (pr.pick t35_38 t38_41 (LV.bool false)).bind fun t39_42 =>
 (pr.guard t39_42 true).bind fun b44 =>
 (if b44 = true then pr.load 42 true u35.2 t3_13.1 else some LV.undef).bind fun t41_44 =>
 (pr.guard t39_42 true).bind fun b45 =>
 (if b45 = true then pr.load 42 true u35.2 t7_34.1 else some LV.undef).bind fun t42_45 =>
 (pr.guard t39_42 true).bind fun b46 =>
 (if b46 = true then pr.call g id_interpreterref04_Same u35.2 [t41_44, t42_45] else some LV.undef).bind fun t43_46 =>
 (pr.pick t39_42 t43_46 (LV.bool false)).bind fun t44_47 =>
 (pr.guard t44_47 true).bind fun b49 =>
 (if b49 = true then some t27_25 else some LV.undef).bind fun t46_49 =>
 (pr.guard t44_47 true).bind fun b50 =>
 (if b50 = true then pr.len true t46_49 else some LV.undef).bind fun t47_50 =>
 (pr.guard t44_47 true).bind fun b51 =>
 (if b51 = true then some a0 else some LV.undef).bind fun t48_51 =>
 (pr.guard t44_47 true).bind fun b52 =>
 (if b52 = true then pr.len true t48_51 else some LV.undef).bind fun t49_52 =>
 (pr.guard t44_47 true).bind fun b53 =>
 (if b53 = true then pr.bin .leq t47_50 t49_52 else some LV.undef).bind fun t50_53 =>
 (pr.pick t44_47 t50_53 (LV.bool false)).bind fun t51_54 =>
 (pr.guard t51_54 true).bind fun b56 =>
 (if b56 = true then some t27_25 else some LV.undef).bind fun t53_56 =>
 (pr.guard t51_54 true).bind fun b57 =>
 (if b57 = true then pr.slc 0 t53_56 none (some (LV.int .i64 7)) else some LV.undef).bind fun t54_57 =>
 (pr.guard t51_54 true).bind fun b58 =>
 (if b58 = true then some a0 else some LV.undef).bind fun t55_58 =>
 (pr.guard t51_54 true).bind fun b59 =>
 (if b59 = true then pr.slc 0 t55_58 none (some (LV.int .i64 7)) else some LV.undef).bind fun t56_59 =>
 (pr.guard t51_54 true).bind fun b60 =>
 (if b60 = true then pr.bin .eql t54_57 t56_59 else some LV.undef).bind fun t57_60 =>
 (pr.pick t51_54 t57_60 (LV.bool false)).bind fun t58_61 =>
 (pr.guard t58_61 true).bind fun b63 =>
 (if b63 = true then some t27_25 else some LV.undef).bind fun t60_63 =>
 (pr.guard t58_61 true).bind fun b64 =>
 (if b64 = true then some t27_25 else some LV.undef).bind fun t61_64 =>
 (pr.guard t58_61 true).bind fun b65 =>
 (if b65 = true then pr.len true t61_64 else some LV.undef).bind fun t62_65 =>
 (pr.guard t58_61 true).bind fun b66 =>
 (if b66 = true then pr.fieldAddr 11 41 t3_13.1 else some LV.undef).bind fun t63_66 =>
 (pr.guard t58_61 true).bind fun b67 =>
 (if b67 = true then pr.load 1 false u35.2 t63_66 else some LV.undef).bind fun t64_67 =>
 (pr.guard t58_61 true).bind fun b68 =>
 (if b68 = true then pr.len true t64_67 else some LV.undef).bind fun t65_68 =>
 (pr.guard t58_61 true).bind fun b69 =>
 (if b69 = true then pr.bin .sub t62_65 t65_68 else some LV.undef).bind fun t66_69 =>
 (pr.guard t58_61 true).bind fun b70 =>
 (if b70 = true then pr.slc 0 t60_63 (some t66_69) none else some LV.undef).bind fun t67_70 =>
 (pr.guard t58_61 true).bind fun b71 =>
 (if b71 = true then pr.fieldAddr 11 41 t3_13.1 else some LV.undef).bind fun t68_71 =>
 (pr.guard t58_61 true).bind fun b72 =>
 (if b72 = true then pr.load 1 false u35.2 t68_71 else some LV.undef).bind fun t69_72 =>
 (pr.guard t58_61 true).bind fun b73 =>
 (if b73 = true then pr.bin .eql t67_70 t69_72 else some LV.undef).bind fun t70_73 =>
 (pr.pick t58_61 t70_73 (LV.bool false)).bind fun t71_74 =>
 pr.fin none u35.2 [t71_74])))
theorem F_interpreterlaw04_Ip6Again_eq (g : Call) (a0 : LV) : fnEv g c_interpreterlaw04_Ip6Again [a0] none = F_interpreterlaw04_Ip6Again g a0 := by kernel_rfl

/-- interpreter/interpreterlaw04.Ip6Links -/
noncomputable def F_interpreterlaw04_Ip6Links (g : Call) (a0 : LV) (a1 : LV) (a2 : LV) (a3 : LV) : Option (LV × Option LV) :=
 (pr.call g id_interpreterlaw04_awake noSlots []).bind fun t19_1 =>
 (pr.un .not t19_1).bind fun t20_2 =>
 condK t20_2 (
 pr.fin none noSlots [(LV.bool false)]) (
 (pr.len true a1).bind fun t22_5 =>
 (pr.bin .gtr t22_5 (LV.int .i64 3000)).bind fun t23_6 =>
 condK t23_6 (
 pr.fin none noSlots [(LV.bool true)]) (
 (pr.conv .i64 a0).bind fun t26_9 =>
 (pr.call g id_ip6_Chain noSlots [t26_9, a1]).bind fun t28_11 =>
 (pr.extract t28_11 0).bind fun t29_13 =>
 (pr.extract t28_11 1).bind fun t30_14 =>
 (pr.extract t28_11 2).bind fun t31_15 =>
 (pr.extract t28_11 3).bind fun t32_16 =>
 condK a3 (
 (pr.conv .i64 a2).bind fun t35_25 =>
 (pr.bin .mul (LV.int .i64 8) t35_25).bind fun t36_26 =>
 (pr.bin .add (LV.int .i64 6) t36_26).bind fun t37_27 =>
 (pr.call g id_interpreterlaw04_zeros noSlots [t37_27]).bind fun t38_28 =>
 (pr.bsl (LV.int .u8 0) 2 [(0, a0), (1, a2)]).bind fun t43_33 =>
 (pr.b2s noSlots t43_33).bind fun t44_34 =>
 (pr.bin .add t44_34 t38_28).bind fun t46_36 =>
 (pr.bin .add t46_36 a1).bind fun t48_38 =>
 (pr.call g id_ip6_Chain noSlots [(LV.int .i64 43), t48_38]).bind fun t49_39 =>
 (pr.extract t49_39 0).bind fun t50_41 =>
 (pr.extract t49_39 1).bind fun t51_42 =>
 (pr.extract t49_39 2).bind fun t52_43 =>
 (pr.extract t49_39 3).bind fun t53_44 =>
 (pr.eqNil 1 true t32_16).bind fun t55_50 =>
 condK t55_50 (
 (pr.eqNil 1 true t53_44).bind fun t57_52 =>
 (pr.guard t57_52 true).bind fun b54 =>
 (if b54 = true then some t29_13 else some LV.undef).bind fun t59_54 =>
 (pr.guard t57_52 true).bind fun b55 =>
 (if b55 = true then pr.len false t59_54 else some LV.undef).bind fun t60_55 =>
 (pr.guard t57_52 true).bind fun b56 =>
 (if b56 = true then pr.bin .eql t60_55 (LV.int .i64 0) else some LV.undef).bind fun t61_56 =>
 (pr.pick t57_52 t61_56 (LV.bool false)).bind fun t62_57 =>
 (pr.guard t62_57 true).bind fun b59 =>
 (if b59 = true then some t30_14 else some LV.undef).bind fun t64_59 =>
 (pr.guard t62_57 true).bind fun b60 =>
 (if b60 = true then pr.bin .eql t64_59 (LV.int .i64 0) else some LV.undef).bind fun t65_60 =>
 (pr.pick t62_57 t65_60 (LV.bool false)).bind fun t66_61 =>
 (pr.guard t66_61 true).bind fun b63 =>
 (if b63 = true then some t31_15 else some LV.undef).bind fun t68_63 =>
 (pr.guard t66_61 true).bind fun b64 =>
 (if b64 = true then pr.bin .eql t68_63 (LV.str []) else some LV.undef).bind fun t69_64 =>
 (pr.pick t66_61 t69_64 (LV.bool false)).bind fun t70_65 =>
 pr.fin none noSlots [t70_65]) (
 (pr.len false t29_13).bind fun t72_68 =>
 (pr.bin .eql t72_68 (LV.int .i64 8)).bind fun t73_69 =>
 (pr.guard t73_69 false).bind fun b71 =>
 (if b71 = true then some t29_13 else some LV.undef).bind fun t75_71 =>
 (pr.guard t73_69 false).bind fun b72 =>
 (if b72 = true then pr.len false t75_71 else some LV.undef).bind fun t76_72 =>
 (pr.guard t73_69 false).bind fun b73 =>
 (if b73 = true then pr.bin .gtr t76_72 (LV.int .i64 0) else some LV.undef).bind fun t77_73 =>
 (pr.guard t73_69 false).bind fun b74 =>
 (if b74 = true then some t77_73 else some LV.undef).bind fun t78_74 =>
 (pr.guard t78_74 true).bind fun b75 =>
 (if b75 = true then some t29_13 else some LV.undef).bind fun t79_75 =>
 (pr.guard t78_74 true).bind fun b76 =>
 (if b76 = true then pr.idxAddr none 2 t79_75 (LV.int .i64 0) else some LV.undef).bind fun t80_76 =>
 (pr.guard t78_74 true).bind fun b77 =>
 (if b77 = true then pr.fieldAddr 0 0 t80_76 else some LV.undef).bind fun t81_77 =>
 (pr.guard t78_74 true).bind fun b78 =>
 (if b78 = true then pr.load 1 false noSlots t81_77 else some LV.undef).bind fun t82_78 =>
 (pr.guard t78_74 true).bind fun b79 =>
 (if b79 = true then pr.bin .eql t82_78 (LV.int .i64 0) else some LV.undef).bind fun t83_79 =>
 (pr.guard t73_69 false).bind fun b80 =>
 (if b80 = true then pr.pick t78_74 t83_79 (LV.bool false) else some LV.undef).bind fun t84_80 =>
 (pr.pick t73_69 (LV.bool true) t84_80).bind fun t85_81 =>
 condK t85_81 (
 (pr.eqNil 1 true t53_44).bind fun t87_83 =>
 pr.fin none noSlots [t87_83]) (
 (pr.eqNil 1 false t53_44).bind fun t89_86 =>
 (pr.guard t89_86 true).bind fun b88 =>
 (if b88 = true then some t50_41 else some LV.undef).bind fun t91_88 =>
 (pr.guard t89_86 true).bind fun b89 =>
 (if b89 = true then pr.len false t91_88 else some LV.undef).bind fun t92_89 =>
 (pr.guard t89_86 true).bind fun b90 =>
 (if b90 = true then some t29_13 else some LV.undef).bind fun t93_90 =>
 (pr.guard t89_86 true).bind fun b91 =>
 (if b91 = true then pr.len false t93_90 else some LV.undef).bind fun t94_91 =>
 (pr.guard t89_86 true).bind fun b92 =>
 (if b92 = true then pr.bin .add t94_91 (LV.int .i64 1) else some LV.undef).bind fun t95_92 =>
 (pr.guard t89_86 true).bind fun b93 =>
 (if b93 = true then pr.bin .eql t92_89 t95_92 else some LV.undef).bind fun t96_93 =>
 (pr.pick t89_86 t96_93 (LV.bool false)).bind fun t97_94 =>
 (pr.guard t97_94 true).bind fun b96 =>
 (if b96 = true then some t50_41 else some LV.undef).bind fun t99_96 =>
 (pr.guard t97_94 true).bind fun b97 =>
 (if b97 = true then pr.idxAddr none 2 t99_96 (LV.int .i64 0) else some LV.undef).bind fun t100_97 =>
 (pr.guard t97_94 true).bind fun b98 =>
 (if b98 = true then pr.fieldAddr 0 0 t100_97 else some LV.undef).bind fun t101_98 =>
 (pr.guard t97_94 true).bind fun b99 =>
 (if b99 = true then pr.load 1 false noSlots t101_98 else some LV.undef).bind fun t102_99 =>
 (pr.guard t97_94 true).bind fun b100 =>
 (if b100 = true then some (LV.int .i64 43) else some LV.undef).bind fun t103_100 =>
 (pr.guard t97_94 true).bind fun b101 =>
 (if b101 = true then pr.bin .eql t102_99 t103_100 else some LV.undef).bind fun t104_101 =>
 (pr.pick t97_94 t104_101 (LV.bool false)).bind fun t105_102 =>
 (pr.guard t105_102 true).bind fun b104 =>
 (if b104 = true then some t50_41 else some LV.undef).bind fun t107_104 =>
 (pr.guard t105_102 true).bind fun b105 =>
 (if b105 = true then pr.idxAddr none 2 t107_104 (LV.int .i64 0) else some LV.undef).bind fun t108_105 =>
 (pr.guard t105_102 true).bind fun b106 =>
 (if b106 = true then pr.fieldAddr 1 1 t108_105 else some LV.undef).bind fun t109_106 =>
 (pr.guard t105_102 true).bind fun b107 =>
 (if b107 = true then pr.load 1 false noSlots t109_106 else some LV.undef).bind fun t110_107 =>
 (pr.guard t105_102 true).bind fun b108 =>
 (if b108 = true then some t38_28 else some LV.undef).bind fun t111_108 =>
 (pr.guard t105_102 true).bind fun b109 =>
 (if b109 = true then pr.bin .eql t110_107 t111_108 else some LV.undef).bind fun t112_109 =>
 (pr.pick t105_102 t112_109 (LV.bool false)).bind fun t113_110 =>
 (pr.guard t113_110 true).bind fun b112 =>
 (if b112 = true then some t50_41 else some LV.undef).bind fun t115_112 =>
 (pr.guard t113_110 true).bind fun b113 =>
 (if b113 = true then pr.slc 2 t115_112 (some (LV.int .i64 1)) none else some LV.undef).bind fun t116_113 =>
 (pr.guard t113_110 true).bind fun b114 =>
 (if b114 = true then pr.parts (LV.agg [(LV.int .i64 0), (LV.int .i64 0), (LV.int .i64 0), (LV.bytes [0, 0, 0, 0, 0, 0, 0, 0, 0, 0, 0, 0, 0, 0, 0, 0]), (LV.bytes [0, 0, 0, 0, 0, 0, 0, 0, 0, 0, 0, 0, 0, 0, 0, 0]), LV.nils, (LV.bool false), (LV.int .u32 0), (LV.int .i64 0), (LV.bool false), (LV.int .i64 0), (LV.str [])]) [(5, t116_113)] else some LV.undef).bind fun t117_114 =>
 (pr.guard t113_110 true).bind fun b115 =>
 (if b115 = true then some t29_13 else some LV.undef).bind fun t118_115 =>
 (pr.guard t113_110 true).bind fun b116 =>
 (if b116 = true then pr.parts (LV.agg [(LV.int .i64 0), (LV.int .i64 0), (LV.int .i64 0), (LV.bytes [0, 0, 0, 0, 0, 0, 0, 0, 0, 0, 0, 0, 0, 0, 0, 0]), (LV.bytes [0, 0, 0, 0, 0, 0, 0, 0, 0, 0, 0, 0, 0, 0, 0, 0]), LV.nils, (LV.bool false), (LV.int .u32 0), (LV.int .i64 0), (LV.bool false), (LV.int .i64 0), (LV.str [])]) [(5, t118_115)] else some LV.undef).bind fun t119_116 =>
 (pr.guard t113_110 true).bind fun b117 =>
 (if b117 = true then pr.call g id_interpreterref04_Same noSlots [t117_114, t119_116] else some LV.undef).bind fun t120_117 =>
 (pr.pick t113_110 t120_117 (LV.bool false)).bind fun t121_118 =>
 (pr.guard t121_118 true).bind fun b120 =>
 (if b120 = true then some t51_42 else some LV.undef).bind fun t123_120 =>
 (pr.guard t121_118 true).bind fun b121 =>
 (if b121 = true then some t30_14 else some LV.undef).bind fun t124_121 =>
 (pr.guard t121_118 true).bind fun b122 =>
 (if b122 = true then pr.bin .eql t123_120 t124_121 else some LV.undef).bind fun t125_122 =>
 (pr.pick t121_118 t125_122 (LV.bool false)).bind fun t126_123 =>
 (pr.guard t126_123 true).bind fun b125 =>
 (if b125 = true then some t52_43 else some LV.undef).bind fun t128_125 =>
 (pr.guard t126_123 true).bind fun b126 =>
 (if b126 = true then some t31_15 else some LV.undef).bind fun t129_126 =>
 (pr.guard t126_123 true).bind fun b127 =>
 (if b127 = true then pr.bin .eql t128_125 t129_126 else some LV.undef).bind fun t130_127 =>
 (pr.pick t126_123 t130_127 (LV.bool false)).bind fun t131_128 =>
 pr.fin none noSlots [t131_128]))) (
 (pr.conv .i64 a2).bind fun t35_131 =>
 (pr.bin .mul (LV.int .i64 8) t35_131).bind fun t36_132 =>
 (pr.bin .add (LV.int .i64 6) t36_132).bind fun t37_133 =>
 (pr.call g id_interpreterlaw04_zeros noSlots [t37_133]).bind fun t38_134 =>
 (pr.bsl (LV.int .u8 0) 2 [(0, a0), (1, a2)]).bind fun t43_139 =>
 (pr.b2s noSlots t43_139).bind fun t44_140 =>
 (pr.bin .add t44_140 t38_134).bind fun t46_142 =>
 (pr.bin .add t46_142 a1).bind fun t48_144 =>
 (pr.call g id_ip6_Chain noSlots [(LV.int .i64 60), t48_144]).bind fun t49_145 =>
 (pr.extract t49_145 0).bind fun t50_147 =>
 (pr.extract t49_145 1).bind fun t51_148 =>
 (pr.extract t49_145 2).bind fun t52_149 =>
 (pr.extract t49_145 3).bind fun t53_150 =>
 (pr.eqNil 1 true t32_16).bind fun t55_156 =>
 condK t55_156 (
 (pr.eqNil 1 true t53_150).bind fun t57_158 =>
 (pr.guard t57_158 true).bind fun b160 =>
 (if b160 = true then some t29_13 else some LV.undef).bind fun t59_160 =>
 (pr.guard t57_158 true).bind fun b161 =>
 (if b161 = true then pr.len false t59_160 else some LV.undef).bind fun t60_161 =>
 (pr.guard t57_158 true).bind fun b162 =>
 (if b162 = true then pr.bin .eql t60_161 (LV.int .i64 0) else some LV.undef).bind fun t61_162 =>
 (pr.pick t57_158 t61_162 (LV.bool false)).bind fun t62_163 =>
 (pr.guard t62_163 true).bind fun b165 =>
 (if b165 = true then some t30_14 else some LV.undef).bind fun t64_165 =>
 (pr.guard t62_163 true).bind fun b166 =>
 (if b166 = true then pr.bin .eql t64_165 (LV.int .i64 0) else some LV.undef).bind fun t65_166 =>
 (pr.pick t62_163 t65_166 (LV.bool false)).bind fun t66_167 =>
 (pr.guard t66_167 true).bind fun b169 =>
 (if b169 = true then some t31_15 else some LV.undef).bind fun t68_169 =>
 (pr.guard t66_167 true).bind fun b170 =>
 (if b170 = true then pr.bin .eql t68_169 (LV.str []) else some LV.undef).bind fun t69_170 =>
 (pr.pick t66_167 t69_170 (LV.bool false)).bind fun t70_171 =>
 pr.fin none noSlots [t70_171]) (
 (pr.len false t29_13).bind fun t72_174 =>
 (pr.bin .eql t72_174 (LV.int .i64 8)).bind fun t73_175 =>
 (pr.guard t73_175 false).bind fun b177 =>
 (if b177 = true then some t29_13 else some LV.undef).bind fun t75_177 =>
 (pr.guard t73_175 false).bind fun b178 =>
 (if b178 = true then pr.len false t75_177 else some LV.undef).bind fun t76_178 =>
 (pr.guard t73_175 false).bind fun b179 =>
 (if b179 = true then pr.bin .gtr t76_178 (LV.int .i64 0) else some LV.undef).bind fun t77_179 =>
 (pr.guard t73_175 false).bind fun b180 =>
 (if b180 = true then some t77_179 else some LV.undef).bind fun t78_180 =>
 (pr.guard t78_180 true).bind fun b181 =>
 (if b181 = true then some t29_13 else some LV.undef).bind fun t79_181 =>
 (pr.guard t78_180 true).bind fun b182 =>
 (if b182 = true then pr.idxAddr none 2 t79_181 (LV.int .i64 0) else some LV.undef).bind fun t80_182 =>
 (pr.guard t78_180 true).bind fun b183 =>
 (if b183 = true then pr.fieldAddr 0 0 t80_182 else some LV.undef).bind fun t81_183 =>
 (pr.guard t78_180 true).bind fun b184 =>
 (if b184 = true then pr.load 1 false noSlots t81_183 else some LV.undef).bind fun t82_184 =>
 (pr.guard t78_180 true).bind fun b185 =>
 (if b185 = true then pr.bin .eql t82_184 (LV.int .i64 0) else some LV.undef).bind fun t83_185 =>
 (pr.guard t73_175 false).bind fun b186 =>
 (if b186 = true then pr.pick t78_180 t83_185 (LV.bool false) else some LV.undef).bind fun t84_186 =>
 (pr.pick t73_175 (LV.bool true) t84_186).bind fun t85_187 =>
 condK t85_187 (
 (pr.eqNil 1 true t53_150).bind fun t87_189 =>
 pr.fin none noSlots [t87_189]) (
 (pr.eqNil 1 false t53_150).bind fun t89_192 =>
 (pr.guard t89_192 true).bind fun b194 =>
 (if b194 = true then some t50_147 else some LV.undef).bind fun t91_194 =>
 (pr.guard t89_192 true).bind fun b195 =>
 (if b195 = true then pr.len false t91_194 else some LV.undef).bind fun t92_195 =>
 (pr.guard t89_192 true).bind fun b196 =>
 (if b196 = true then some t29_13 else some LV.undef).bind fun t93_196 =>
 (pr.guard t89_192 true).bind fun b197 =>
 (if b197 = true then pr.len false t93_196 else some LV.undef).bind fun t94_197 =>
 (pr.guard t89_192 true).bind fun b198 =>
 (if b198 = true then pr.bin .add t94_197 (LV.int .i64 1) else some LV.undef).bind fun t95_198 =>
 (pr.guard t89_192 true).bind fun b199 =>
 (if b199 = true then pr.bin .eql t92_195 t95_198 else some LV.undef).bind fun t96_199 =>
 (pr.pick t89_192 t96_199 (LV.bool false)).bind fun t97_200 =>
 (pr.guard t97_200 true).bind fun b202 =>
 (if b202 = true then some t50_147 else some LV.undef).bind fun t99_202 =>
 (pr.guard t97_200 true).bind fun b203 =>
 (if b203 = true then pr.idxAddr none 2 t99_202 (LV.int .i64 0) else some LV.undef).bind fun t100_203 =>
 (pr.guard t97_200 true).bind fun b204 =>
 (if b204 = true then pr.fieldAddr 0 0 t100_203 else some LV.undef).bind fun t101_204 =>
 (pr.guard t97_200 true).bind fun b205 =>
 (if b205 = true then pr.load 1 false noSlots t101_204 else some LV.undef).bind fun t102_205 =>
 (pr.guard t97_200 true).bind fun b206 =>
 (if b206 = true then some (LV.int .i64 60) else some LV.undef).bind fun t103_206 =>
 (pr.guard t97_200 true).bind fun b207 =>
 (if b207 = true then pr.bin .eql t102_205 t103_206 else some LV.undef).bind fun t104_207 =>
 (pr.pick t97_200 t104_207 (LV.bool false)).bind fun t105_208 =>
 (pr.guard t105_208 true).bind fun b210 =>
 (if b210 = true then some t50_147 else some LV.undef).bind fun t107_210 =>
 (pr.guard t105_208 true).bind fun b211 =>
 (if b211 = true then pr.idxAddr none 2 t107_210 (LV.int .i64 0) else some LV.undef).bind fun t108_211 =>
 (pr.guard t105_208 true).bind fun b212 =>
 (if b212 = true then pr.fieldAddr 1 1 t108_211 else some LV.undef).bind fun t109_212 =>
 (pr.guard t105_208 true).bind fun b213 =>
 (if b213 = true then pr.load 1 false noSlots t109_212 else some LV.undef).bind fun t110_213 =>
 (pr.guard t105_208 true).bind fun b214 =>
 (if b214 = true then some t38_134 else some LV.undef).bind fun t111_214 =>
 (pr.guard t105_208 true).bind fun b215 =>
 (if b215 = true then pr.bin .eql t110_213 t111_214 else some LV.undef).bind fun t112_215 =>
 (pr.pick t105_208 t112_215 (LV.bool false)).bind fun t113_216 =>
 (pr.guard t113_216 true).bind fun b218 =>
 (if b218 = true then some t50_147 else some LV.undef).bind fun t115_218 =>
 (pr.guard t113_216 true).bind fun b219 =>
 (if b219 = true then pr.slc 2 t115_218 (some (LV.int .i64 1)) none else some LV.undef).bind fun t116_219 =>
 (pr.guard t113_216 true).bind fun b220 =>
 (if b220 = true then pr.parts (LV.agg [(LV.int .i64 0), (LV.int .i64 0), (LV.int .i64 0), (LV.bytes [0, 0, 0, 0, 0, 0, 0, 0, 0, 0, 0, 0, 0, 0, 0, 0]), (LV.bytes [0, 0, 0, 0, 0, 0, 0, 0, 0, 0, 0, 0, 0, 0, 0, 0]), LV.nils, (LV.bool false), (LV.int .u32 0), (LV.int .i64 0), (LV.bool false), (LV.int .i64 0), (LV.str [])]) [(5, t116_219)] else some LV.undef).bind fun t117_220 =>
 (pr.guard t113_216 true).bind fun b221 =>
 (if b221 = true then some t29_13 else some LV.undef).bind fun t118_221 =>
 (pr.guard t113_216 true).bind fun b222 =>
 (if b222 = true then pr.parts (LV.agg [(LV.int .i64 0), (LV.int .i64 0), (LV.int .i64 0), (LV.bytes [0, 0, 0, 0, 0, 0, 0, 0, 0, 0, 0, 0, 0, 0, 0, 0]), (LV.bytes [0, 0, 0, 0, 0, 0, 0, 0, 0, 0, 0, 0, 0, 0, 0, 0]), LV.nils, (LV.bool false), (LV.int .u32 0), (LV.int .i64 0), (LV.bool false), (LV.int .i64 0), (LV.str [])]) [(5, t118_221)] else some LV.undef).bind fun t119_222 =>
 (pr.guard t113_216 true).bind fun b223 =>
 (if b223 = true then pr.call g id_interpreterref04_Same noSlots [t117_220, t119_222] else some LV.undef).bind fun t120_223 =>
 (pr.pick t113_216 t120_223 (LV.bool false)).bind fun t121_224 =>
 (pr.guard t121_224 true).bind fun b226 =>
 (if b226 = true then some t51_148 else some LV.undef).bind fun t123_226 =>
 (pr.guard t121_224 true).bind fun b227 =>
 (if b227 = true then some t30_14 else some LV.undef).bind fun t124_227 =>
 (pr.guard t121_224 true).bind fun b228 =>
 (if b228 = true then pr.bin .eql t123_226 t124_227 else some LV.undef).bind fun t125_228 =>
 (pr.pick t121_224 t125_228 (LV.bool false)).bind fun t126_229 =>
 (pr.guard t126_229 true).bind fun b231 =>
 (if b231 = true then some t52_149 else some LV.undef).bind fun t128_231 =>
 (pr.guard t126_229 true).bind fun b232 =>
 (if b232 = true then some t31_15 else some LV.undef).bind fun t129_232 =>
 (pr.guard t126_229 true).bind fun b233 =>
 (if b233 = true then pr.bin .eql t128_231 t129_232 else some LV.undef).bind fun t130_233 =>
 (pr.pick t126_229 t130_233 (LV.bool false)).bind fun t131_234 =>
 pr.fin none noSlots [t131_234])))))
theorem F_interpreterlaw04_Ip6Links_eq (g : Call) (a0 : LV) (a1 : LV) (a2 : LV) (a3 : LV) : fnEv g c_interpreterlaw04_Ip6Links [a0, a1, a2, a3] none = F_interpreterlaw04_Ip6Links g a0 a1 a2 a3 := by kernel_rfl

/-- interpreter/interpreterlaw04.Ip6Fields -/
noncomputable def F_interpreterlaw04_Ip6Fields (g : Call) (a0 : LV) (a1 : LV) (a2 : LV) : Option (LV × Option LV) :=
 (pr.box a0).bind fun t3_0 =>
 (pr.call g id_interpreterlaw04_awake noSlots []).bind fun t15_2 =>
 (pr.un .not t15_2).bind fun t16_3 =>
 condK t16_3 (
 pr.fin none noSlots [(LV.bool false)]) (
 (pr.load 42 true noSlots t3_0).bind fun t17_5 =>
 (pr.call g id_interpreterlaw04_Great noSlots [t17_5]).bind fun t18_6 =>
 condK t18_6 (
 pr.fin none noSlots [(LV.bool true)]) (
 (pr.load 42 true noSlots t3_0).bind fun t20_8 =>
 (pr.call g id_ip6_Bytes noSlots [t20_8]).bind fun t21_9 =>
 (pr.extract t21_9 0).bind fun t22_11 =>
 (pr.extract t21_9 1).bind fun t23_12 =>
 (pr.load 42 true noSlots t3_0).bind fun t24_15 =>
 (pr.alloc (LV.agg [(LV.int .i64 0), (LV.int .i64 0), (LV.int .i64 0), (LV.bytes [0, 0, 0, 0, 0, 0, 0, 0, 0, 0, 0, 0, 0, 0, 0, 0]), (LV.bytes [0, 0, 0, 0, 0, 0, 0, 0, 0, 0, 0, 0, 0, 0, 0, 0]), LV.nils, (LV.bool false), (LV.int .u32 0), (LV.int .i64 0), (LV.bool false), (LV.int .i64 0), (LV.str [])]) 9 noSlots).bind fun t9_16 =>
 (pr.store 42 true t9_16.2 t9_16.1 t24_15).bind fun u17 =>
 (pr.conv .i64 a1).bind fun t26_19 =>
 (pr.fieldAddr 2 2 t9_16.1).bind fun t27_20 =>
 (pr.store 1 false u17.2 t27_20 t26_19).bind fun u21 =>
 (pr.fieldAddr 4 19 t3_0).bind fun t28_22 =>
 (pr.load 16 true u21.2 t28_22).bind fun t29_23 =>
 (pr.fieldAddr 3 3 t3_0).bind fun t30_24 =>
 (pr.load 16 true u21.2 t30_24).bind fun t31_25 =>
 (pr.fieldAddr 3 3 t9_16.1).bind fun t32_26 =>
 (pr.store 16 true u21.2 t32_26 t29_23).bind fun u27 =>
 (pr.fieldAddr 4 19 t9_16.1).bind fun t33_28 =>
 (pr.store 16 true u27.2 t33_28 t31_25).bind fun u29 =>
 if noMeet t30_24 t32_26 = true then ((pr.load 42 true u29.2 t9_16.1).bind fun t35_30 =>
 (pr.call g id_ip6_Bytes u29.2 [t35_30]).bind fun t36_31 =>
 (pr.extract t36_31 0).bind fun t37_33 =>
 (pr.extract t36_31 1).bind fun t38_34 =>
 (pr.eqNil 1 true t23_12).bind fun t40_38 =>
 (pr.guard t40_38 false).bind fun b40 =>
 (if b40 = true then some t38_34 else some LV.undef).bind fun t42_40 =>
 (pr.guard t40_38 false).bind fun b41 =>
 (if b41 = true then pr.eqNil 1 true t42_40 else some LV.undef).bind fun t43_41 =>
 (pr.pick t40_38 (LV.bool true) t43_41).bind fun t44_42 =>
 condK t44_42 (
 (pr.eqNil 1 true t23_12).bind fun t46_44 =>
 (pr.guard t46_44 false).bind fun b46 =>
 (if b46 = true then some t38_34 else some LV.undef).bind fun t48_46 =>
 (pr.guard t46_44 false).bind fun b47 =>
 (if b47 = true then pr.eqNil 1 false t48_46 else some LV.undef).bind fun t49_47 =>
 (pr.pick t46_44 (LV.bool true) t49_47).bind fun t50_48 =>
 pr.fin none u29.2 [t50_48]) (
 (pr.len true t22_11).bind fun t52_51 =>
 (pr.bin .lss t52_51 (LV.int .i64 40)).bind fun t53_52 =>
 (pr.guard t53_52 false).bind fun b54 =>
 (if b54 = true then some t22_11 else some LV.undef).bind fun t55_54 =>
 (pr.guard t53_52 false).bind fun b55 =>
 (if b55 = true then pr.len true t55_54 else some LV.undef).bind fun t56_55 =>
 (pr.guard t53_52 false).bind fun b56 =>
 (if b56 = true then some t37_33 else some LV.undef).bind fun t57_56 =>
 (pr.guard t53_52 false).bind fun b57 =>
 (if b57 = true then pr.len true t57_56 else some LV.undef).bind fun t58_57 =>
 (pr.guard t53_52 false).bind fun b58 =>
 (if b58 = true then pr.bin .neq t56_55 t58_57 else some LV.undef).bind fun t59_58 =>
 (pr.pick t53_52 (LV.bool true) t59_58).bind fun t60_59 =>
 (pr.guard t60_59 false).bind fun b61 =>
 (if b61 = true then some t22_11 else some LV.undef).bind fun t62_61 =>
 (pr.guard t60_59 false).bind fun b62 =>
 (if b62 = true then pr.slc 0 t62_61 none (some (LV.int .i64 7)) else some LV.undef).bind fun t63_62 =>
 (pr.guard t60_59 false).bind fun b63 =>
 (if b63 = true then some t37_33 else some LV.undef).bind fun t64_63 =>
 (pr.guard t60_59 false).bind fun b64 =>
 (if b64 = true then pr.slc 0 t64_63 none (some (LV.int .i64 7)) else some LV.undef).bind fun t65_64 =>
 (pr.guard t60_59 false).bind fun b65 =>
 (if b65 = true then pr.bin .neq t63_62 t65_64 else some LV.undef).bind fun t66_65 =>
 (pr.pick t60_59 (LV.bool true) t66_65).bind fun t67_66 =>
 (pr.guard t67_66 false).bind fun b68 =>
 (if b68 = true then some t37_33 else some LV.undef).bind fun t69_68 =>
 (pr.guard t67_66 false).bind fun b69 =>
 (if b69 = true then pr.idxStr t69_68 (LV.int .i64 7) else some LV.undef).bind fun t70_69 =>
 (pr.guard t67_66 false).bind fun b70 =>
 (if b70 = true then some a1 else some LV.undef).bind fun t71_70 =>
 (pr.guard t67_66 false).bind fun b71 =>
 (if b71 = true then pr.bin .neq t70_69 t71_70 else some LV.undef).bind fun t72_71 =>
 (pr.pick t67_66 (LV.bool true) t72_71).bind fun t73_72 =>
 (pr.guard t73_72 false).bind fun b74 =>
 (if b74 = true then some t22_11 else some LV.undef).bind fun t75_74 =>
 (pr.guard t73_72 false).bind fun b75 =>
 (if b75 = true then pr.slc 0 t75_74 (some (LV.int .i64 8)) (some (LV.int .i64 24)) else some LV.undef).bind fun t76_75 =>
 (pr.guard t73_72 false).bind fun b76 =>
 (if b76 = true then some t37_33 else some LV.undef).bind fun t77_76 =>
 (pr.guard t73_72 false).bind fun b77 =>
 (if b77 = true then pr.slc 0 t77_76 (some (LV.int .i64 24)) (some (LV.int .i64 40)) else some LV.undef).bind fun t78_77 =>
 (pr.guard t73_72 false).bind fun b78 =>
 (if b78 = true then pr.bin .neq t76_75 t78_77 else some LV.undef).bind fun t79_78 =>
 (pr.pick t73_72 (LV.bool true) t79_78).bind fun t80_79 =>
 (pr.guard t80_79 false).bind fun b81 =>
 (if b81 = true then some t22_11 else some LV.undef).bind fun t82_81 =>
 (pr.guard t80_79 false).bind fun b82 =>
 (if b82 = true then pr.slc 0 t82_81 (some (LV.int .i64 24)) (some (LV.int .i64 40)) else some LV.undef).bind fun t83_82 =>
 (pr.guard t80_79 false).bind fun b83 =>
 (if b83 = true then some t37_33 else some LV.undef).bind fun t84_83 =>
 (pr.guard t80_79 false).bind fun b84 =>
 (if b84 = true then pr.slc 0 t84_83 (some (LV.int .i64 8)) (some (LV.int .i64 24)) else some LV.undef).bind fun t85_84 =>
 (pr.guard t80_79 false).bind fun b85 =>
 (if b85 = true then pr.bin .neq t83_82 t85_84 else some LV.undef).bind fun t86_85 =>
 (pr.pick t80_79 (LV.bool true) t86_85).bind fun t87_86 =>
 (pr.guard t87_86 false).bind fun b88 =>
 (if b88 = true then some t22_11 else some LV.undef).bind fun t89_88 =>
 (pr.guard t87_86 false).bind fun b89 =>
 (if b89 = true then pr.slc 0 t89_88 (some (LV.int .i64 40)) none else some LV.undef).bind fun t90_89 =>
 (pr.guard t87_86 false).bind fun b90 =>
 (if b90 = true then some t37_33 else some LV.undef).bind fun t91_90 =>
 (pr.guard t87_86 false).bind fun b91 =>
 (if b91 = true then pr.slc 0 t91_90 (some (LV.int .i64 40)) none else some LV.undef).bind fun t92_91 =>
 (pr.guard t87_86 false).bind fun b92 =>
 (if b92 = true then pr.bin .neq t90_89 t92_91 else some LV.undef).bind fun t93_92 =>
 (pr.pick t87_86 (LV.bool true) t93_92).bind fun t94_93 =>
 condK t94_93 (
 pr.fin none u29.2 [(LV.bool false)]) (
 (pr.fieldAddr 6 36 t3_0).bind fun t95_95 =>
 (pr.load 1 false u29.2 t95_95).bind fun t96_96 =>
 condK t96_96 (
 pr.fin none u29.2 [(LV.bool true)]) (
 (pr.fieldAddr 6 36 t9_16.1).bind fun t97_98 =>
 (pr.store 1 false u29.2 t97_98 (LV.bool true)).bind fun u99 =>
 (pr.fieldAddr 7 37 t9_16.1).bind fun t99_101 =>
 (pr.store 1 false u99.2 t99_101 a2).bind fun u102 =>
 (pr.load 42 true u102.2 t9_16.1).bind fun t101_103 =>
 (pr.call g id_ip6_Bytes u102.2 [t101_103]).bind fun t102_104 =>
 (pr.extract t102_104 0).bind fun t103_106 =>
 (pr.extract t102_104 1).bind fun t104_107 =>
 (pr.eqNil 1 true t104_107).bind fun t106_111 =>
 condK t106_111 (
 (pr.len true t22_11).bind fun t108_113 =>
 (pr.bin .add t108_113 (LV.int .i64 8)).bind fun t109_114 =>
 (pr.bin .gtr t109_114 (LV.int .i64 65575)).bind fun t110_115 =>
 pr.fin none u102.2 [t110_115]) (
 (pr.len true t22_11).bind fun t112_118 =>
 (pr.fieldAddr 11 41 t3_0).bind fun t113_119 =>
 (pr.load 1 false u102.2 t113_119).bind fun t114_120 =>
 (pr.len true t114_120).bind fun t115_121 =>
 (pr.bin .sub t112_118 t115_121).bind fun t116_122 =>
 (pr.len true t103_106).bind fun t118_125 =>
 (pr.len true t22_11).bind fun t120_127 =>
 (pr.bin .add t120_127 (LV.int .i64 8)).bind fun t121_128 =>
 (pr.bin .eql t118_125 t121_128).bind fun t122_129 =>
 (pr.guard t122_129 true).bind fun b131 =>
 (if b131 = true then some t116_122 else some LV.undef).bind fun t124_131 =>
 (pr.guard t122_129 true).bind fun b132 =>
 (if b132 = true then pr.bin .geq t124_131 (LV.int .i64 40) else some LV.undef).bind fun t125_132 =>
 (pr.pick t122_129 t125_132 (LV.bool false)).bind fun t126_133 =>
 (pr.guard t126_133 true).bind fun b135 =>
 (if b135 = true then some t103_106 else some LV.undef).bind fun t128_135 =>
 (pr.guard t126_133 true).bind fun b136 =>
 (if b136 = true then pr.slc 0 t128_135 none (some (LV.int .i64 4)) else some LV.undef).bind fun t129_136 =>
 (pr.guard t126_133 true).bind fun b137 =>
 (if b137 = true then some t37_33 else some LV.undef).bind fun t130_137 =>
 (pr.guard t126_133 true).bind fun b138 =>
 (if b138 = true then pr.slc 0 t130_137 none (some (LV.int .i64 4)) else some LV.undef).bind fun t131_138 =>
 (pr.guard t126_133 true).bind fun b139 =>
 (if b139 = true then pr.bin .eql t129_136 t131_138 else some LV.undef).bind fun t132_139 =>
 (pr.pick t126_133 t132_139 (LV.bool false)).bind fun t133_140 =>
 (pr.guard t133_140 true).bind fun b142 =>
 (if b142 = true then some t103_106 else some LV.undef).bind fun t135_142 =>
 (pr.guard t133_140 true).bind fun b143 =>
 (if b143 = true then pr.slc 0 t135_142 (some (LV.int .i64 7)) (some (LV.int .i64 40)) else some LV.undef).bind fun t136_143 =>
 (pr.guard t133_140 true).bind fun b144 =>
 (if b144 = true then some t37_33 else some LV.undef).bind fun t137_144 =>
 (pr.guard t133_140 true).bind fun b145 =>
 (if b145 = true then pr.slc 0 t137_144 (some (LV.int .i64 7)) (some (LV.int .i64 40)) else some LV.undef).bind fun t138_145 =>
 (pr.guard t133_140 true).bind fun b146 =>
 (if b146 = true then pr.bin .eql t136_143 t138_145 else some LV.undef).bind fun t139_146 =>
 (pr.pick t133_140 t139_146 (LV.bool false)).bind fun t140_147 =>
 (pr.guard t140_147 true).bind fun b149 =>
 (if b149 = true then some t103_106 else some LV.undef).bind fun t142_149 =>
 (pr.guard t140_147 true).bind fun b150 =>
 (if b150 = true then some t116_122 else some LV.undef).bind fun t143_150 =>
 (pr.guard t140_147 true).bind fun b151 =>
 (if b151 = true then pr.bin .add t143_150 (LV.int .i64 8) else some LV.undef).bind fun t144_151 =>
 (pr.guard t140_147 true).bind fun b152 =>
 (if b152 = true then pr.slc 0 t142_149 (some t144_151) none else some LV.undef).bind fun t145_152 =>
 (pr.guard t140_147 true).bind fun b153 =>
 (if b153 = true then pr.fieldAddr 11 41 t3_0 else some LV.undef).bind fun t146_153 =>
 (pr.guard t140_147 true).bind fun b154 =>
 (if b154 = true then pr.load 1 false u102.2 t146_153 else some LV.undef).bind fun t147_154 =>
 (pr.guard t140_147 true).bind fun b155 =>
 (if b155 = true then pr.bin .eql t145_152 t147_154 else some LV.undef).bind fun t148_155 =>
 (pr.pick t140_147 t148_155 (LV.bool false)).bind fun t149_156 =>
 (pr.guard t149_156 true).bind fun b158 =>
 (if b158 = true then some t103_106 else some LV.undef).bind fun t151_158 =>
 (pr.guard t149_156 true).bind fun b159 =>
 (if b159 = true then some t116_122 else some LV.undef).bind fun t152_159 =>
 (pr.guard t149_156 true).bind fun b160 =>
 (if b160 = true then pr.idxStr t151_158 t152_159 else some LV.undef).bind fun t153_160 =>
 (pr.guard t149_156 true).bind fun b161 =>
 (if b161 = true then pr.fieldAddr 10 40 t3_0 else some LV.undef).bind fun t154_161 =>
 (pr.guard t149_156 true).bind fun b162 =>
 (if b162 = true then pr.load 1 false u102.2 t154_161 else some LV.undef).bind fun t155_162 =>
 (pr.guard t149_156 true).bind fun b163 =>
 (if b163 = true then pr.conv .u8 t155_162 else some LV.undef).bind fun t156_163 =>
 (pr.guard t149_156 true).bind fun b164 =>
 (if b164 = true then pr.bin .eql t153_160 t156_163 else some LV.undef).bind fun t157_164 =>
 (pr.pick t149_156 t157_164 (LV.bool false)).bind fun t158_165 =>
 pr.fin none u102.2 [t158_165]))))) else none))
theorem F_interpreterlaw04_Ip6Fields_eq (g : Call) (a0 : LV) (a1 : LV) (a2 : LV) : fnEv g c_interpreterlaw04_Ip6Fields [a0, a1, a2] none = F_interpreterlaw04_Ip6Fields g a0 a1 a2 := by kernel_rfl

/-- interpreter/interpreterlaw04.Ip6Known -/
noncomputable def F_interpreterlaw04_Ip6Known (g : Call) : Option (LV × Option LV) :=
 (pr.call g id_ip6_Chain noSlots [(LV.int .i64 60), (LV.str [17, 0, 1, 4, 0, 0, 0, 0, 104, 105])]).bind fun t16_1 =>
 (pr.extract t16_1 0).bind fun t17_3 =>
 (pr.extract t16_1 1).bind fun t18_4 =>
 (pr.extract t16_1 2).bind fun t19_5 =>
 (pr.extract t16_1 3).bind fun t20_6 =>
 (pr.call g id_strings_Repeat noSlots [(LV.str [96]), (LV.int .i64 39)]).bind fun t22_11 =>
 (pr.call g id_ip6_Parse noSlots [t22_11]).bind fun t23_12 =>
 (pr.extract t23_12 0).bind fun t24_14 =>
 (pr.extract t23_12 1).bind fun t25_15 =>
 (pr.alloc (LV.agg [(LV.int .i64 0), (LV.int .i64 0), (LV.int .i64 0), (LV.bytes [0, 0, 0, 0, 0, 0, 0, 0, 0, 0, 0, 0, 0, 0, 0, 0]), (LV.bytes [0, 0, 0, 0, 0, 0, 0, 0, 0, 0, 0, 0, 0, 0, 0, 0]), LV.nils, (LV.bool false), (LV.int .u32 0), (LV.int .i64 0), (LV.bool false), (LV.int .i64 0), (LV.str [])]) 5 noSlots).bind fun t5_16 =>
 (pr.store 42 true t5_16.2 t5_16.1 t24_14).bind fun u17 =>
 (pr.parts (LV.agg [(LV.int .i64 0), (LV.int .i64 0), (LV.int .i64 0), (LV.bytes [0, 0, 0, 0, 0, 0, 0, 0, 0, 0, 0, 0, 0, 0, 0, 0]), (LV.bytes [0, 0, 0, 0, 0, 0, 0, 0, 0, 0, 0, 0, 0, 0, 0, 0]), LV.nils, (LV.bool false), (LV.int .u32 0), (LV.int .i64 0), (LV.bool false), (LV.int .i64 0), (LV.str [])]) [(10, (LV.int .i64 44))]).bind fun t27_19 =>
 (pr.call g id_ip6_Bytes u17.2 [t27_19]).bind fun t28_20 =>
 (pr.extract t28_20 0).bind fun t29_22 =>
 (pr.extract t28_20 1).bind fun t30_23 =>
 (pr.parts (LV.agg [(LV.int .i64 0), (LV.int .i64 0), (LV.int .i64 0), (LV.bytes [0, 0, 0, 0, 0, 0, 0, 0, 0, 0, 0, 0, 0, 0, 0, 0]), (LV.bytes [0, 0, 0, 0, 0, 0, 0, 0, 0, 0, 0, 0, 0, 0, 0, 0]), LV.nils, (LV.bool false), (LV.int .u32 0), (LV.int .i64 0), (LV.bool false), (LV.int .i64 0), (LV.str [])]) [(1, (LV.int .i64 1048576)), (10, (LV.int .i64 44))]).bind fun t32_26 =>
 (pr.call g id_ip6_Bytes u17.2 [t32_26]).bind fun t33_27 =>
 (pr.extract t33_27 0).bind fun t34_29 =>
 (pr.extract t33_27 1).bind fun t35_30 =>
 (pr.call g id_interpreterlaw04_zeros u17.2 [(LV.int .i64 65536)]).bind fun t37_33 =>
 (pr.parts (LV.agg [(LV.int .i64 0), (LV.int .i64 0), (LV.int .i64 0), (LV.bytes [0, 0, 0, 0, 0, 0, 0, 0, 0, 0, 0, 0, 0, 0, 0, 0]), (LV.bytes [0, 0, 0, 0, 0, 0, 0, 0, 0, 0, 0, 0, 0, 0, 0, 0]), LV.nils, (LV.bool false), (LV.int .u32 0), (LV.int .i64 0), (LV.bool false), (LV.int .i64 0), (LV.str [])]) [(10, (LV.int .i64 6)), (11, t37_33)]).bind fun t38_34 =>
 (pr.call g id_ip6_Bytes u17.2 [t38_34]).bind fun t39_35 =>
 (pr.extract t39_35 0).bind fun t40_37 =>
 (pr.extract t39_35 1).bind fun t41_38 =>
 (pr.call g id_interpreterlaw04_zeros u17.2 [(LV.int .i64 65535)]).bind fun t43_41 =>
 (pr.parts (LV.agg [(LV.int .i64 0), (LV.int .i64 0), (LV.int .i64 0), (LV.bytes [0, 0, 0, 0, 0, 0, 0, 0, 0, 0, 0, 0, 0, 0, 0, 0]), (LV.bytes [0, 0, 0, 0, 0, 0, 0, 0, 0, 0, 0, 0, 0, 0, 0, 0]), LV.nils, (LV.bool false), (LV.int .u32 0), (LV.int .i64 0), (LV.bool false), (LV.int .i64 0), (LV.str [])]) [(10, (LV.int .i64 6)), (11, t43_41)]).bind fun t44_42 =>
 (pr.call g id_ip6_Bytes u17.2 [t44_42]).bind fun t45_43 =>
 (pr.extract t45_43 0).bind fun t46_45 =>
 (pr.extract t45_43 1).bind fun t47_46 =>
 (pr.call g id_interpreterlaw04_awake u17.2 []).bind fun t48_49 =>
 (pr.guard t48_49 true).bind fun b51 =>
 (if b51 = true then some t20_6 else some LV.undef).bind fun t50_51 =>
 (pr.guard t48_49 true).bind fun b52 =>
 (if b52 = true then pr.eqNil 1 false t50_51 else some LV.undef).bind fun t51_52 =>
 (pr.pick t48_49 t51_52 (LV.bool false)).bind fun t52_53 =>
 (pr.guard t52_53 true).bind fun b55 =>
 (if b55 = true then some t17_3 else some LV.undef).bind fun t54_55 =>
 (pr.guard t52_53 true).bind fun b56 =>
 (if b56 = true then pr.len false t54_55 else some LV.undef).bind fun t55_56 =>
 (pr.guard t52_53 true).bind fun b57 =>
 (if b57 = true then pr.bin .eql t55_56 (LV.int .i64 1) else some LV.undef).bind fun t56_57 =>
 (pr.pick t52_53 t56_57 (LV.bool false)).bind fun t57_58 =>
 (pr.guard t57_58 true).bind fun b60 =>
 (if b60 = true then some t17_3 else some LV.undef).bind fun t59_60 =>
 (pr.guard t57_58 true).bind fun b61 =>
 (if b61 = true then pr.idxAddr none 2 t59_60 (LV.int .i64 0) else some LV.undef).bind fun t60_61 =>
 (pr.guard t57_58 true).bind fun b62 =>
 (if b62 = true then pr.fieldAddr 0 0 t60_61 else some LV.undef).bind fun t61_62 =>
 (pr.guard t57_58 true).bind fun b63 =>
 (if b63 = true then pr.load 1 false u17.2 t61_62 else some LV.undef).bind fun t62_63 =>
 (pr.guard t57_58 true).bind fun b64 =>
 (if b64 = true then pr.bin .eql t62_63 (LV.int .i64 60) else some LV.undef).bind fun t63_64 =>
 (pr.pick t57_58 t63_64 (LV.bool false)).bind fun t64_65 =>
 (pr.guard t64_65 true).bind fun b67 =>
 (if b67 = true then some t17_3 else some LV.undef).bind fun t66_67 =>
 (pr.guard t64_65 true).bind fun b68 =>
 (if b68 = true then pr.idxAddr none 2 t66_67 (LV.int .i64 0) else some LV.undef).bind fun t67_68 =>
 (pr.guard t64_65 true).bind fun b69 =>
 (if b69 = true then pr.fieldAddr 1 1 t67_68 else some LV.undef).bind fun t68_69 =>
 (pr.guard t64_65 true).bind fun b70 =>
 (if b70 = true then pr.load 1 false u17.2 t68_69 else some LV.undef).bind fun t69_70 =>
 (pr.guard t64_65 true).bind fun b71 =>
 (if b71 = true then pr.bin .eql t69_70 (LV.str [1, 4, 0, 0, 0, 0]) else some LV.undef).bind fun t70_71 =>
 (pr.pick t64_65 t70_71 (LV.bool false)).bind fun t71_72 =>
 (pr.guard t71_72 true).bind fun b74 =>
 (if b74 = true then some t18_4 else some LV.undef).bind fun t73_74 =>
 (pr.guard t71_72 true).bind fun b75 =>
 (if b75 = true then pr.bin .eql t73_74 (LV.int .i64 17) else some LV.undef).bind fun t74_75 =>
 (pr.pick t71_72 t74_75 (LV.bool false)).bind fun t75_76 =>
 (pr.guard t75_76 true).bind fun b78 =>
 (if b78 = true then some t19_5 else some LV.undef).bind fun t77_78 =>
 (pr.guard t75_76 true).bind fun b79 =>
 (if b79 = true then pr.bin .eql t77_78 (LV.str [104, 105]) else some LV.undef).bind fun t78_79 =>
 (pr.pick t75_76 t78_79 (LV.bool false)).bind fun t79_80 =>
 (pr.guard t79_80 true).bind fun b82 =>
 (if b82 = true then some t25_15 else some LV.undef).bind fun t81_82 =>
 (pr.guard t79_80 true).bind fun b83 =>
 (if b83 = true then pr.call g id_interpreterlaw04_same u17.2 [t81_82, (LV.int .i64 7)] else some LV.undef).bind fun t82_83 =>
 (pr.pick t79_80 t82_83 (LV.bool false)).bind fun t83_84 =>
 (pr.guard t83_84 true).bind fun b86 =>
 (if b86 = true then some t30_23 else some LV.undef).bind fun t85_86 =>
 (pr.guard t83_84 true).bind fun b87 =>
 (if b87 = true then pr.call g id_interpreterlaw04_same u17.2 [t85_86, (LV.int .i64 10)] else some LV.undef).bind fun t86_87 =>
 (pr.pick t83_84 t86_87 (LV.bool false)).bind fun t87_88 =>
 (pr.guard t87_88 true).bind fun b90 =>
 (if b90 = true then some t35_30 else some LV.undef).bind fun t89_90 =>
 (pr.guard t87_88 true).bind fun b91 =>
 (if b91 = true then pr.call g id_interpreterlaw04_same u17.2 [t89_90, (LV.int .i64 13)] else some LV.undef).bind fun t90_91 =>
 (pr.pick t87_88 t90_91 (LV.bool false)).bind fun t91_92 =>
 (pr.guard t91_92 true).bind fun b94 =>
 (if b94 = true then some t41_38 else some LV.undef).bind fun t93_94 =>
 (pr.guard t91_92 true).bind fun b95 =>
 (if b95 = true then pr.call g id_interpreterlaw04_same u17.2 [t93_94, (LV.int .i64 3)] else some LV.undef).bind fun t94_95 =>
 (pr.pick t91_92 t94_95 (LV.bool false)).bind fun t95_96 =>
 (pr.guard t95_96 true).bind fun b98 =>
 (if b98 = true then some t47_46 else some LV.undef).bind fun t97_98 =>
 (pr.guard t95_96 true).bind fun b99 =>
 (if b99 = true then pr.eqNil 1 false t97_98 else some LV.undef).bind fun t98_99 =>
 (pr.pick t95_96 t98_99 (LV.bool false)).bind fun t99_100 =>
 (pr.guard t99_100 true).bind fun b102 =>
 (if b102 = true then pr.parts (LV.agg [(LV.int .i64 0), (LV.str [])]) [(0, (LV.int .i64 43)), (1, (LV.str [0, 1]))] else some LV.undef).bind fun t101_102 =>
 (pr.guard t99_100 true).bind fun b103 =>
 (if b103 = true then pr.bsl (LV.agg [(LV.int .i64 0), (LV.str [])]) 1 [(0, t101_102)] else some LV.undef).bind fun t102_103 =>
 (pr.guard t99_100 true).bind fun b104 =>
 (if b104 = true then pr.call g id_ip6_Routed u17.2 [t102_103] else some LV.undef).bind fun t103_104 =>
 (pr.pick t99_100 t103_104 (LV.bool false)).bind fun t104_105 =>
 (pr.guard t104_105 true).bind fun b107 =>
 (if b107 = true then pr.parts (LV.agg [(LV.int .i64 0), (LV.str [])]) [(0, (LV.int .i64 60)), (1, (LV.str [0, 1]))] else some LV.undef).bind fun t106_107 =>
 (pr.guard t104_105 true).bind fun b108 =>
 (if b108 = true then pr.parts (LV.agg [(LV.int .i64 0), (LV.str [])]) [(0, (LV.int .i64 43)), (1, (LV.str [1, 0]))] else some LV.undef).bind fun t107_108 =>
 (pr.guard t104_105 true).bind fun b109 =>
 (if b109 = true then pr.bsl (LV.agg [(LV.int .i64 0), (LV.str [])]) 2 [(0, t106_107), (1, t107_108)] else some LV.undef).bind fun t108_109 =>
 (pr.guard t104_105 true).bind fun b110 =>
 (if b110 = true then pr.call g id_ip6_Routed u17.2 [t108_109] else some LV.undef).bind fun t109_110 =>
 (pr.guard t104_105 true).bind fun b111 =>
 (if b111 = true then pr.un .not t109_110 else some LV.undef).bind fun t110_111 =>
 (pr.pick t104_105 t110_111 (LV.bool false)).bind fun t111_112 =>
 pr.fin none u17.2 [t111_112]
theorem F_interpreterlaw04_Ip6Known_eq (g : Call) : fnEv g c_interpreterlaw04_Ip6Known [] none = F_interpreterlaw04_Ip6Known g := by kernel_rfl

/-- interpreter/interpreterlaw04.Ip6Writes -/
noncomputable def F_interpreterlaw04_Ip6Writes (g : Call) (a0 : LV) : Option (LV × Option LV) :=
 (pr.box a0).bind fun t1_0 =>
 (pr.call g id_interpreterlaw04_awake noSlots []).bind fun t7_2 =>
 (pr.un .not t7_2).bind fun t8_3 =>
 condK t8_3 (
 pr.fin none noSlots [(LV.bool false)]) (
 (pr.load 42 true noSlots t1_0).bind fun t9_5 =>
 (pr.call g id_interpreterlaw04_Great noSlots [t9_5]).bind fun t10_6 =>
 condK t10_6 (
 pr.fin none noSlots [(LV.bool true)]) (
 (pr.load 42 true noSlots t1_0).bind fun t12_8 =>
 (pr.call g id_ip6_Bytes noSlots [t12_8]).bind fun t13_9 =>
 (pr.extract t13_9 0).bind fun t14_11 =>
 (pr.extract t13_9 1).bind fun t15_12 =>
 (pr.load 42 true noSlots t1_0).bind fun t17_15 =>
 (pr.call g id_interpreterref04_Bytes noSlots [t17_15]).bind fun t18_16 =>
 (pr.extract t18_16 0).bind fun t19_18 =>
 (pr.extract t18_16 1).bind fun t20_19 =>
 (pr.bin .eql t14_11 t19_18).bind fun t23_24 =>
 (pr.guard t23_24 true).bind fun b26 =>
 (if b26 = true then some t15_12 else some LV.undef).bind fun t25_26 =>
 (pr.guard t23_24 true).bind fun b27 =>
 (if b27 = true then some t20_19 else some LV.undef).bind fun t26_27 =>
 (pr.guard t23_24 true).bind fun b28 =>
 (if b28 = true then pr.call g id_interpreterlaw04_same noSlots [t25_26, t26_27] else some LV.undef).bind fun t27_28 =>
 (pr.pick t23_24 t27_28 (LV.bool false)).bind fun t28_29 =>
 (pr.guard t28_29 true).bind fun b31 =>
 (if b31 = true then pr.fieldAddr 5 35 t1_0 else some LV.undef).bind fun t30_31 =>
 (pr.guard t28_29 true).bind fun b32 =>
 (if b32 = true then pr.load 1 false noSlots t30_31 else some LV.undef).bind fun t31_32 =>
 (pr.guard t28_29 true).bind fun b33 =>
 (if b33 = true then pr.call g id_ip6_Routed noSlots [t31_32] else some LV.undef).bind fun t32_33 =>
 (pr.guard t28_29 true).bind fun b34 =>
 (if b34 = true then pr.fieldAddr 5 35 t1_0 else some LV.undef).bind fun t33_34 =>
 (pr.guard t28_29 true).bind fun b35 =>
 (if b35 = true then pr.load 1 false noSlots t33_34 else some LV.undef).bind fun t34_35 =>
 (pr.guard t28_29 true).bind fun b36 =>
 (if b36 = true then pr.call g id_interpreterref04_Routed noSlots [t34_35] else some LV.undef).bind fun t35_36 =>
 (pr.guard t28_29 true).bind fun b37 =>
 (if b37 = true then pr.eqB false t32_33 t35_36 else some LV.undef).bind fun t36_37 =>
 (pr.pick t28_29 t36_37 (LV.bool false)).bind fun t37_38 =>
 pr.fin none noSlots [t37_38]))
theorem F_interpreterlaw04_Ip6Writes_eq (g : Call) (a0 : LV) : fnEv g c_interpreterlaw04_Ip6Writes [a0] none = F_interpreterlaw04_Ip6Writes g a0 := by kernel_rfl

/-- interpreter/interpreterlaw04.awake -/
noncomputable def F_interpreterlaw04_awake (g : Call) : Option (LV × Option LV) :=
 (pr.parts (LV.agg [(LV.int .i64 0), (LV.int .i64 0), (LV.int .i64 0), (LV.bytes [0, 0, 0, 0, 0, 0, 0, 0, 0, 0, 0, 0, 0, 0, 0, 0]), (LV.bytes [0, 0, 0, 0, 0, 0, 0, 0, 0, 0, 0, 0, 0, 0, 0, 0]), LV.nils, (LV.bool false), (LV.int .u32 0), (LV.int .i64 0), (LV.bool false), (LV.int .i64 0), (LV.str [])]) [(2, (LV.int .i64 64)), (10, (LV.int .i64 17)), (11, (LV.str [104, 105]))]).bind fun t6_1 =>
 (pr.alloc (LV.agg [(LV.int .i64 0), (LV.int .i64 0), (LV.int .i64 0), (LV.bytes [0, 0, 0, 0, 0, 0, 0, 0, 0, 0, 0, 0, 0, 0, 0, 0]), (LV.bytes [0, 0, 0, 0, 0, 0, 0, 0, 0, 0, 0, 0, 0, 0, 0, 0]), LV.nils, (LV.bool false), (LV.int .u32 0), (LV.int .i64 0), (LV.bool false), (LV.int .i64 0), (LV.str [])]) 1 noSlots).bind fun t1_2 =>
 (pr.store 42 true t1_2.2 t1_2.1 t6_1).bind fun u3 =>
 (pr.load 42 true u3.2 t1_2.1).bind fun t8_4 =>
 (pr.call g id_ip6_Bytes u3.2 [t8_4]).bind fun t9_5 =>
 (pr.extract t9_5 0).bind fun t10_7 =>
 (pr.extract t9_5 1).bind fun t11_8 =>
 (pr.call g id_ip6_Parse u3.2 [t10_7]).bind fun t14_12 =>
 (pr.extract t14_12 0).bind fun t15_14 =>
 (pr.extract t14_12 1).bind fun t16_15 =>
 (pr.alloc (LV.agg [(LV.int .i64 0), (LV.int .i64 0), (LV.int .i64 0), (LV.bytes [0, 0, 0, 0, 0, 0, 0, 0, 0, 0, 0, 0, 0, 0, 0, 0]), (LV.bytes [0, 0, 0, 0, 0, 0, 0, 0, 0, 0, 0, 0, 0, 0, 0, 0]), LV.nils, (LV.bool false), (LV.int .u32 0), (LV.int .i64 0), (LV.bool false), (LV.int .i64 0), (LV.str [])]) 4 u3.2).bind fun t4_16 =>
 (pr.store 42 true t4_16.2 t4_16.1 t15_14).bind fun u17 =>
 (pr.eqNil 1 false t11_8).bind fun t18_20 =>
 (pr.guard t18_20 true).bind fun b22 =>
 (if b22 = true then some t16_15 else some LV.undef).bind fun t20_22 =>
 (pr.guard t18_20 true).bind fun b23 =>
 (if b23 = true then pr.eqNil 1 false t20_22 else some LV.undef).bind fun t21_23 =>
 (pr.pick t18_20 t21_23 (LV.bool false)).bind fun t22_24 =>
 (pr.guard t22_24 true).bind fun b26 =>
 (if b26 = true then pr.load 42 true u17.2 t1_2.1 else some LV.undef).bind fun t24_26 =>
 (pr.guard t22_24 true).bind fun b27 =>
 (if b27 = true then pr.load 42 true u17.2 t4_16.1 else some LV.undef).bind fun t25_27 =>
 (pr.guard t22_24 true).bind fun b28 =>
 (if b28 = true then pr.call g id_interpreterref04_Same u17.2 [t24_26, t25_27] else some LV.undef).bind fun t26_28 =>
 (pr.pick t22_24 t26_28 (LV.bool false)).bind fun t27_29 =>
 (pr.guard t27_29 true).bind fun b31 =>
 (if b31 = true then some t10_7 else some LV.undef).bind fun t29_31 =>
 (pr.guard t27_29 true).bind fun b32 =>
 (if b32 = true then pr.call g id_interpreterlaw04_zeros u17.2 [(LV.int .i64 32)] else some LV.undef).bind fun t30_32 =>
 (pr.guard t27_29 true).bind fun b33 =>
 (if b33 = true then pr.bin .add (LV.str [96, 0, 0, 0, 0, 2, 17, 64]) t30_32 else some LV.undef).bind fun t31_33 =>
 (pr.guard t27_29 true).bind fun b34 =>
 (if b34 = true then pr.bin .add t31_33 (LV.str [104, 105]) else some LV.undef).bind fun t32_34 =>
 (pr.guard t27_29 true).bind fun b35 =>
 (if b35 = true then pr.bin .eql t29_31 t32_34 else some LV.undef).bind fun t33_35 =>
 (pr.pick t27_29 t33_35 (LV.bool false)).bind fun t34_36 =>
 pr.fin none u17.2 [t34_36]
theorem F_interpreterlaw04_awake_eq (g : Call) : fnEv g c_interpreterlaw04_awake [] none = F_interpreterlaw04_awake g := by kernel_rfl

/-- interpreter/ip6.Parse -/
noncomputable def F_ip6_Parse (g : Call) (a0 : LV) : Option (LV × Option LV) :=
 (pr.alloc (LV.agg [(LV.int .i64 0), (LV.int .i64 0), (LV.int .i64 0), (LV.bytes [0, 0, 0, 0, 0, 0, 0, 0, 0, 0, 0, 0, 0, 0, 0, 0]), (LV.bytes [0, 0, 0, 0, 0, 0, 0, 0, 0, 0, 0, 0, 0, 0, 0, 0]), LV.nils, (LV.bool false), (LV.int .u32 0), (LV.int .i64 0), (LV.bool false), (LV.int .i64 0), (LV.str [])]) 2 noSlots).bind fun t2_0 =>
 (pr.alloc (LV.agg [(LV.int .i64 0), (LV.int .i64 0), (LV.int .i64 0), (LV.bytes [0, 0, 0, 0, 0, 0, 0, 0, 0, 0, 0, 0, 0, 0, 0, 0]), (LV.bytes [0, 0, 0, 0, 0, 0, 0, 0, 0, 0, 0, 0, 0, 0, 0, 0]), LV.nils, (LV.bool false), (LV.int .u32 0), (LV.int .i64 0), (LV.bool false), (LV.int .i64 0), (LV.str [])]) 4 t2_0.2).bind fun t4_2 =>
 (pr.len true a0).bind fun t14_4 =>
 (pr.bin .lss t14_4 (LV.int .i64 40)).bind fun t15_5 =>
 condK t15_5 (
 (pr.load 42 true t4_2.2 t4_2.1).bind fun t16_6 =>
 (pr.call g id_ip6_fault t4_2.2 [(LV.int .i64 7)]).bind fun t17_7 =>
 (pr.store 42 true t4_2.2 t2_0.1 t16_6).bind fun u8 =>
 (pr.load 42 true u8.2 t2_0.1).bind fun v10 =>
 pr.fin none u8.2 [v10, t17_7]) (
 (pr.idxStr a0 (LV.int .i64 0)).bind fun t19_12 =>
 (pr.bin .shr t19_12 (LV.int .u64 4)).bind fun t20_13 =>
 (pr.bin .neq t20_13 (LV.int .u8 6)).bind fun t21_14 =>
 condK t21_14 (
 (pr.load 42 true t4_2.2 t4_2.1).bind fun t22_15 =>
 (pr.call g id_ip6_fault t4_2.2 [(LV.int .i64 8)]).bind fun t23_16 =>
 (pr.store 42 true t4_2.2 t2_0.1 t22_15).bind fun u17 =>
 (pr.load 42 true u17.2 t2_0.1).bind fun v19 =>
 pr.fin none u17.2 [v19, t23_16]) (
 (pr.idxStr a0 (LV.int .i64 4)).bind fun t25_21 =>
 (pr.conv .i64 t25_21).bind fun t26_22 =>
 (pr.bin .shl t26_22 (LV.int .u64 8)).bind fun t27_23 =>
 (pr.idxStr a0 (LV.int .i64 5)).bind fun t29_25 =>
 (pr.conv .i64 t29_25).bind fun t30_26 =>
 (pr.bin .or t27_23 t30_26).bind fun t31_27 =>
 (pr.len true a0).bind fun t33_30 =>
 (pr.bin .add (LV.int .i64 40) t31_27).bind fun t35_32 =>
 (pr.bin .lss t33_30 t35_32).bind fun t36_33 =>
 condK t36_33 (
 (pr.load 42 true t4_2.2 t4_2.1).bind fun t37_34 =>
 (pr.call g id_ip6_fault t4_2.2 [(LV.int .i64 7)]).bind fun t38_35 =>
 (pr.store 42 true t4_2.2 t2_0.1 t37_34).bind fun u36 =>
 (pr.load 42 true u36.2 t2_0.1).bind fun v38 =>
 pr.fin none u36.2 [v38, t38_35]) (
 (pr.callFr g id_num_New 41 t4_2.2 [a0]).bind fun t41_40 =>
 (pr.callRw g id_num_Reader_U32 t41_40.2 [t41_40.1]).bind fun t42_41 =>
 (pr.extract t42_41.1 0).bind fun t43_43 =>
 (pr.extract t42_41.1 1).bind fun t44_44 =>
 (pr.bin .shr t43_43 (LV.int .u64 20)).bind fun t46_48 =>
 (pr.bin .and t46_48 (LV.int .i64 255)).bind fun t47_49 =>
 (pr.bin .and t43_43 (LV.int .i64 1048575)).bind fun t49_51 =>
 (pr.idxStr a0 (LV.int .i64 7)).bind fun t51_53 =>
 (pr.conv .i64 t51_53).bind fun t52_54 =>
 (pr.parts (LV.agg [(LV.int .i64 0), (LV.int .i64 0), (LV.int .i64 0), (LV.bytes [0, 0, 0, 0, 0, 0, 0, 0, 0, 0, 0, 0, 0, 0, 0, 0]), (LV.bytes [0, 0, 0, 0, 0, 0, 0, 0, 0, 0, 0, 0, 0, 0, 0, 0]), LV.nils, (LV.bool false), (LV.int .u32 0), (LV.int .i64 0), (LV.bool false), (LV.int .i64 0), (LV.str [])]) [(0, t47_49), (1, t49_51), (2, t52_54)]).bind fun t53_55 =>
 (pr.alloc (LV.agg [(LV.int .i64 0), (LV.int .i64 0), (LV.int .i64 0), (LV.bytes [0, 0, 0, 0, 0, 0, 0, 0, 0, 0, 0, 0, 0, 0, 0, 0]), (LV.bytes [0, 0, 0, 0, 0, 0, 0, 0, 0, 0, 0, 0, 0, 0, 0, 0]), LV.nils, (LV.bool false), (LV.int .u32 0), (LV.int .i64 0), (LV.bool false), (LV.int .i64 0), (LV.str [])]) 8 t42_41.2).bind fun t8_56 =>
 (pr.store 42 true t8_56.2 t8_56.1 t53_55).bind fun u57 =>
 (pr.fieldAddr 3 3 t8_56.1).bind fun t54_58 =>
 (pr.slcArr 16 u57.2 t54_58 none none).bind fun t55_59 =>
 (pr.slc 0 a0 (some (LV.int .i64 8)) none).bind fun t57_61 =>
 (pr.copy u57.2 t55_59 t57_61).bind fun t58_62 =>
 (pr.fieldAddr 4 19 t8_56.1).bind fun t59_63 =>
 (pr.slcArr 16 t58_62.2 t59_63 none none).bind fun t60_64 =>
 (pr.slc 0 a0 (some (LV.int .i64 24)) none).bind fun t62_66 =>
 (pr.copy t58_62.2 t60_64 t62_66).bind fun t63_67 =>
 (pr.idxStr a0 (LV.int .i64 6)).bind fun t66_70 =>
 (pr.conv .i64 t66_70).bind fun t67_71 =>
 (pr.bin .add (LV.int .i64 40) t31_27).bind fun t70_74 =>
 (pr.slc 0 a0 (some (LV.int .i64 40)) (some t70_74)).bind fun t71_75 =>
 (pr.call g id_ip6_Chain t63_67.2 [t67_71, t71_75]).bind fun t72_76 =>
 (pr.extract t72_76 0).bind fun t73_78 =>
 (pr.extract t72_76 1).bind fun t74_79 =>
 (pr.extract t72_76 2).bind fun t75_80 =>
 (pr.extract t72_76 3).bind fun t76_81 =>
 (pr.fieldAddr 5 35 t8_56.1).bind fun t77_82 =>
 (pr.store 1 false t63_67.2 t77_82 t73_78).bind fun u83 =>
 (pr.fieldAddr 10 40 t8_56.1).bind fun t78_84 =>
 (pr.store 1 false u83.2 t78_84 t74_79).bind fun u85 =>
 (pr.fieldAddr 11 41 t8_56.1).bind fun t79_86 =>
 (pr.store 1 false u85.2 t79_86 t75_80).bind fun u87 =>
 (pr.eqNil 1 true t76_81).bind fun t81_90 =>
 condK t81_90 (
 (pr.load 42 true u87.2 t4_2.1).bind fun t82_91 =>
 (pr.store 42 true u87.2 t2_0.1 t82_91).bind fun u93 =>
 (pr.load 42 true u93.2 t2_0.1).bind fun v95 =>
 pr.fin none u93.2 [v95, t76_81]) (
 (pr.fieldAddr 10 40 t8_56.1).bind fun t84_96 =>
 (pr.load 1 false u87.2 t84_96).bind fun t85_97 =>
 (pr.bin .neq t85_97 (LV.int .i64 44)).bind fun t86_98 =>
 condK t86_98 (
 (pr.load 42 true u87.2 t8_56.1).bind fun t87_99 =>
 (pr.store 42 true u87.2 t2_0.1 t87_99).bind fun u100 =>
 (pr.load 42 true u100.2 t2_0.1).bind fun v102 =>
 pr.fin none u100.2 [v102, LV.nili]) (
 (pr.fieldAddr 11 41 t8_56.1).bind fun t88_103 =>
 (pr.load 1 false u87.2 t88_103).bind fun t89_104 =>
 (pr.len true t89_104).bind fun t90_105 =>
 (pr.bin .lss t90_105 (LV.int .i64 8)).bind fun t91_106 =>
 condK t91_106 (
 (pr.load 42 true u87.2 t4_2.1).bind fun t92_107 =>
 (pr.call g id_ip6_fault u87.2 [(LV.int .i64 7)]).bind fun t93_108 =>
 (pr.store 42 true u87.2 t2_0.1 t92_107).bind fun u109 =>
 (pr.load 42 true u109.2 t2_0.1).bind fun v111 =>
 pr.fin none u109.2 [v111, t93_108]) (
 (pr.fieldAddr 11 41 t8_56.1).bind fun t94_112 =>
 (pr.load 1 false u87.2 t94_112).bind fun t95_113 =>
 (pr.idxStr t95_113 (LV.int .i64 2)).bind fun t96_114 =>
 (pr.conv .i64 t96_114).bind fun t97_115 =>
 (pr.bin .shl t97_115 (LV.int .u64 8)).bind fun t98_116 =>
 (pr.fieldAddr 11 41 t8_56.1).bind fun t99_117 =>
 (pr.load 1 false u87.2 t99_117).bind fun t100_118 =>
 (pr.idxStr t100_118 (LV.int .i64 3)).bind fun t101_119 =>
 (pr.conv .i64 t101_119).bind fun t102_120 =>
 (pr.bin .or t98_116 t102_120).bind fun t103_121 =>
 (pr.fieldAddr 11 41 t8_56.1).bind fun t105_123 =>
 (pr.load 1 false u87.2 t105_123).bind fun t106_124 =>
 (pr.slc 0 t106_124 (some (LV.int .i64 4)) none).bind fun t107_125 =>
 (pr.callFr g id_num_New 108 u87.2 [t107_125]).bind fun t108_126 =>
 (pr.callRw g id_num_Reader_U32 t108_126.2 [t108_126.1]).bind fun t109_127 =>
 (pr.extract t109_127.1 0).bind fun t110_129 =>
 (pr.extract t109_127.1 1).bind fun t111_130 =>
 (pr.conv .u32 t110_129).bind fun t113_134 =>
 (pr.bin .andNot t103_121 (LV.int .i64 7)).bind fun t115_136 =>
 (pr.bin .and t103_121 (LV.int .i64 1)).bind fun t117_138 =>
 (pr.bin .neq t117_138 (LV.int .i64 0)).bind fun t118_139 =>
 (pr.fieldAddr 11 41 t8_56.1).bind fun t119_140 =>
 (pr.load 1 false t109_127.2 t119_140).bind fun t120_141 =>
 (pr.idxStr t120_141 (LV.int .i64 0)).bind fun t121_142 =>
 (pr.conv .i64 t121_142).bind fun t122_143 =>
 (pr.fieldAddr 11 41 t8_56.1).bind fun t123_144 =>
 (pr.load 1 false t109_127.2 t123_144).bind fun t124_145 =>
 (pr.slc 0 t124_145 (some (LV.int .i64 8)) none).bind fun t125_146 =>
 (pr.fieldAddr 6 36 t8_56.1).bind fun t126_147 =>
 (pr.store 1 false t109_127.2 t126_147 (LV.bool true)).bind fun u148 =>
 (pr.fieldAddr 7 37 t8_56.1).bind fun t127_149 =>
 (pr.store 1 false u148.2 t127_149 t113_134).bind fun u150 =>
 (pr.fieldAddr 8 38 t8_56.1).bind fun t128_151 =>
 (pr.store 1 false u150.2 t128_151 t115_136).bind fun u152 =>
 (pr.fieldAddr 9 39 t8_56.1).bind fun t129_153 =>
 (pr.store 1 false u152.2 t129_153 t118_139).bind fun u154 =>
 (pr.fieldAddr 10 40 t8_56.1).bind fun t130_155 =>
 (pr.store 1 false u154.2 t130_155 t122_143).bind fun u156 =>
 (pr.fieldAddr 11 41 t8_56.1).bind fun t131_157 =>
 (pr.store 1 false u156.2 t131_157 t125_146).bind fun u158 =>
 (pr.load 42 true u158.2 t8_56.1).bind fun t132_159 =>
 (pr.call g id_ip6_pieced u158.2 [t132_159]).bind fun t133_160 =>
 (pr.un .not t133_160).bind fun t134_161 =>
 (pr.guard t134_161 false).bind fun b163 =>
 (if b163 = true then pr.fieldAddr 11 41 t8_56.1 else some LV.undef).bind fun t136_163 =>
 (pr.guard t134_161 false).bind fun b164 =>
 (if b164 = true then pr.load 1 false u158.2 t136_163 else some LV.undef).bind fun t137_164 =>
 (pr.guard t134_161 false).bind fun b165 =>
 (if b165 = true then pr.len true t137_164 else some LV.undef).bind fun t138_165 =>
 (pr.guard t134_161 false).bind fun b166 =>
 (if b166 = true then pr.fieldAddr 8 38 t8_56.1 else some LV.undef).bind fun t139_166 =>
 (pr.guard t134_161 false).bind fun b167 =>
 (if b167 = true then pr.load 1 false u158.2 t139_166 else some LV.undef).bind fun t140_167 =>
 (pr.guard t134_161 false).bind fun b168 =>
 (if b168 = true then pr.bin .sub (LV.int .i64 65535) t140_167 else some LV.undef).bind fun t141_168 =>
 (pr.guard t134_161 false).bind fun b169 =>
 (if b169 = true then pr.bin .gtr t138_165 t141_168 else some LV.undef).bind fun t142_169 =>
 (pr.pick t134_161 (LV.bool true) t142_169).bind fun t143_170 =>
 condK t143_170 (
 (pr.load 42 true u158.2 t4_2.1).bind fun t144_171 =>
 (pr.call g id_ip6_fault u158.2 [(LV.int .i64 8)]).bind fun t145_172 =>
 (pr.store 42 true u158.2 t2_0.1 t144_171).bind fun u173 =>
 (pr.load 42 true u173.2 t2_0.1).bind fun v175 =>
 pr.fin none u173.2 [v175, t145_172]) (
 (pr.load 42 true u158.2 t8_56.1).bind fun t146_176 =>
 (pr.store 42 true u158.2 t2_0.1 t146_176).bind fun u177 =>
 (pr.load 42 true u177.2 t2_0.1).bind fun v179 =>
 pr.fin none u177.2 [v179, LV.nili])))))))
theorem F_ip6_Parse_eq (g : Call) (a0 : LV) : fnEv g c_ip6_Parse [a0] none = F_ip6_Parse g a0 := by kernel_rfl

/-- interpreter/interpreterref04.Parse -/
noncomputable def F_interpreterref04_Parse (g : Call) (a0 : LV) : Option (LV × Option LV) :=
 (pr.alloc (LV.agg [(LV.int .i64 0), (LV.int .i64 0), (LV.int .i64 0), (LV.bytes [0, 0, 0, 0, 0, 0, 0, 0, 0, 0, 0, 0, 0, 0, 0, 0]), (LV.bytes [0, 0, 0, 0, 0, 0, 0, 0, 0, 0, 0, 0, 0, 0, 0, 0]), LV.nils, (LV.bool false), (LV.int .u32 0), (LV.int .i64 0), (LV.bool false), (LV.int .i64 0), (LV.str [])]) 2 noSlots).bind fun t2_0 =>
 (pr.parts (LV.agg [(LV.int .i64 0), (LV.int .i64 0), (LV.int .i64 0), (LV.bytes [0, 0, 0, 0, 0, 0, 0, 0, 0, 0, 0, 0, 0, 0, 0, 0]), (LV.bytes [0, 0, 0, 0, 0, 0, 0, 0, 0, 0, 0, 0, 0, 0, 0, 0]), LV.nils, (LV.bool false), (LV.int .u32 0), (LV.int .i64 0), (LV.bool false), (LV.int .i64 0), (LV.str [])]) []).bind fun t13_2 =>
 (pr.alloc (LV.agg [(LV.int .i64 0), (LV.int .i64 0), (LV.int .i64 0), (LV.bytes [0, 0, 0, 0, 0, 0, 0, 0, 0, 0, 0, 0, 0, 0, 0, 0]), (LV.bytes [0, 0, 0, 0, 0, 0, 0, 0, 0, 0, 0, 0, 0, 0, 0, 0]), LV.nils, (LV.bool false), (LV.int .u32 0), (LV.int .i64 0), (LV.bool false), (LV.int .i64 0), (LV.str [])]) 4 t2_0.2).bind fun t4_3 =>
 (pr.store 42 true t4_3.2 t4_3.1 t13_2).bind fun u4 =>
 (pr.len true a0).bind fun t15_6 =>
 (pr.bin .lss t15_6 (LV.int .i64 40)).bind fun t16_7 =>
 condK t16_7 (
 (pr.load 42 true u4.2 t4_3.1).bind fun t17_8 =>
 (pr.store 42 true u4.2 t2_0.1 t17_8).bind fun u9 =>
 (pr.load 42 true u9.2 t2_0.1).bind fun v11 =>
 pr.fin none u9.2 [v11, (LV.int .i64 7)]) (
 (pr.idxStr a0 (LV.int .i64 0)).bind fun t19_13 =>
 (pr.bin .quo t19_13 (LV.int .u8 16)).bind fun t20_14 =>
 (pr.bin .neq t20_14 (LV.int .u8 6)).bind fun t21_15 =>
 condK t21_15 (
 (pr.load 42 true u4.2 t4_3.1).bind fun t22_16 =>
 (pr.store 42 true u4.2 t2_0.1 t22_16).bind fun u17 =>
 (pr.load 42 true u17.2 t2_0.1).bind fun v19 =>
 pr.fin none u17.2 [v19, (LV.int .i64 8)]) (
 (pr.call g id_interpreterref04_number u4.2 [a0, (LV.int .i64 4), (LV.int .i64 2)]).bind fun t24_21 =>
 (pr.len true a0).bind fun t26_24 =>
 (pr.bin .add (LV.int .i64 40) t24_21).bind fun t28_26 =>
 (pr.bin .lss t26_24 t28_26).bind fun t29_27 =>
 condK t29_27 (
 (pr.load 42 true u4.2 t4_3.1).bind fun t30_28 =>
 (pr.store 42 true u4.2 t2_0.1 t30_28).bind fun u29 =>
 (pr.load 42 true u29.2 t2_0.1).bind fun v31 =>
 pr.fin none u29.2 [v31, (LV.int .i64 7)]) (
 (pr.call g id_interpreterref04_number u4.2 [a0, (LV.int .i64 0), (LV.int .i64 4)]).bind fun t32_33 =>
 (pr.bin .quo t32_33 (LV.int .i64 1048576)).bind fun t34_36 =>
 (pr.bin .rem t34_36 (LV.int .i64 256)).bind fun t35_37 =>
 (pr.bin .rem t32_33 (LV.int .i64 1048576)).bind fun t37_39 =>
 (pr.idxStr a0 (LV.int .i64 7)).bind fun t39_41 =>
 (pr.conv .i64 t39_41).bind fun t40_42 =>
 (pr.parts (LV.agg [(LV.int .i64 0), (LV.int .i64 0), (LV.int .i64 0), (LV.bytes [0, 0, 0, 0, 0, 0, 0, 0, 0, 0, 0, 0, 0, 0, 0, 0]), (LV.bytes [0, 0, 0, 0, 0, 0, 0, 0, 0, 0, 0, 0, 0, 0, 0, 0]), LV.nils, (LV.bool false), (LV.int .u32 0), (LV.int .i64 0), (LV.bool false), (LV.int .i64 0), (LV.str [])]) [(0, t35_37), (1, t37_39), (2, t40_42)]).bind fun t41_43 =>
 (pr.alloc (LV.agg [(LV.int .i64 0), (LV.int .i64 0), (LV.int .i64 0), (LV.bytes [0, 0, 0, 0, 0, 0, 0, 0, 0, 0, 0, 0, 0, 0, 0, 0]), (LV.bytes [0, 0, 0, 0, 0, 0, 0, 0, 0, 0, 0, 0, 0, 0, 0, 0]), LV.nils, (LV.bool false), (LV.int .u32 0), (LV.int .i64 0), (LV.bool false), (LV.int .i64 0), (LV.str [])]) 7 u4.2).bind fun t7_44 =>
 (pr.store 42 true t7_44.2 t7_44.1 t41_43).bind fun u45 =>
 (whileW (fun q47 : List LV × Slots =>
 (pr.bin .lss (getL q47.1 0) (LV.int .i64 16)).bind fun t43_49 =>
 condK t43_49 (
 (pr.bin .add (LV.int .i64 8) (getL q47.1 0)).bind fun t49_53 =>
 (pr.idxStr a0 t49_53).bind fun t50_54 =>
 (pr.fieldAddr 3 3 t7_44.1).bind fun t51_55 =>
 (pr.idxAddr (some 16) 1 t51_55 (getL q47.1 0)).bind fun t52_56 =>
 (pr.store 1 false q47.2 t52_56 t50_54).bind fun u57 =>
 (pr.bin .add (LV.int .i64 24) (getL q47.1 0)).bind fun t56_61 =>
 (pr.idxStr a0 t56_61).bind fun t57_62 =>
 (pr.fieldAddr 4 19 t7_44.1).bind fun t58_63 =>
 (pr.idxAddr (some 16) 1 t58_63 (getL q47.1 0)).bind fun t59_64 =>
 (pr.store 1 false u57.2 t59_64 t57_62).bind fun u65 =>
 (pr.bin .add (getL q47.1 0) (LV.int .i64 1)).bind fun t45_67 =>
 pr.round u45.2 .normal [t45_67] u65.2) (
 pr.round u45.2 (.exit 0) [(getL q47.1 0)] q47.2)) ([(LV.int .i64 0)], u45.2)).bind fun r47 =>
 exIf r47.1 (.exit 0) (
 (pr.idxStr a0 (LV.int .i64 6)).bind fun t62_70 =>
 (pr.conv .i64 t62_70).bind fun t63_71 =>
 (pr.bin .add (LV.int .i64 40) t24_21).bind fun t66_74 =>
 (pr.slc 0 a0 (some (LV.int .i64 40)) (some t66_74)).bind fun t67_75 =>
 (pr.call g id_interpreterref04_Chain r47.2.2 [t63_71, t67_75]).bind fun t68_76 =>
 (pr.extract t68_76 0).bind fun t69_78 =>
 (pr.extract t68_76 1).bind fun t70_79 =>
 (pr.extract t68_76 2).bind fun t71_80 =>
 (pr.extract t68_76 3).bind fun t72_81 =>
 (pr.bin .neq t72_81 (LV.int .i64 0)).bind fun t74_87 =>
 condK t74_87 (
 (pr.load 42 true r47.2.2 t4_3.1).bind fun t75_88 =>
 (pr.store 42 true r47.2.2 t2_0.1 t75_88).bind fun u90 =>
 (pr.load 42 true u90.2 t2_0.1).bind fun v92 =>
 pr.fin none u90.2 [v92, t72_81]) (
 (pr.fieldAddr 5 35 t7_44.1).bind fun t78_94 =>
 (pr.store 1 false r47.2.2 t78_94 t69_78).bind fun u95 =>
 (pr.fieldAddr 10 40 t7_44.1).bind fun t80_97 =>
 (pr.store 1 false u95.2 t80_97 t70_79).bind fun u98 =>
 (pr.fieldAddr 11 41 t7_44.1).bind fun t82_100 =>
 (pr.store 1 false u98.2 t82_100 t71_80).bind fun u101 =>
 (pr.bin .neq t70_79 (LV.int .i64 44)).bind fun t84_103 =>
 condK t84_103 (
 (pr.load 42 true u101.2 t7_44.1).bind fun t85_104 =>
 (pr.store 42 true u101.2 t2_0.1 t85_104).bind fun u105 =>
 (pr.load 42 true u105.2 t2_0.1).bind fun v107 =>
 pr.fin none u105.2 [v107, (LV.int .i64 0)]) (
 (pr.len true t71_80).bind fun t87_109 =>
 (pr.bin .lss t87_109 (LV.int .i64 8)).bind fun t88_110 =>
 condK t88_110 (
 (pr.load 42 true u101.2 t4_3.1).bind fun t89_111 =>
 (pr.store 42 true u101.2 t2_0.1 t89_111).bind fun u112 =>
 (pr.load 42 true u112.2 t2_0.1).bind fun v114 =>
 pr.fin none u112.2 [v114, (LV.int .i64 7)]) (
 (pr.fieldAddr 6 36 t7_44.1).bind fun t90_115 =>
 (pr.store 1 false u101.2 t90_115 (LV.bool true)).bind fun u116 =>
 (pr.idxStr t71_80 (LV.int .i64 0)).bind fun t92_118 =>
 (pr.conv .i64 t92_118).bind fun t93_119 =>
 (pr.fieldAddr 10 40 t7_44.1).bind fun t94_120 =>
 (pr.store 1 false u116.2 t94_120 t93_119).bind fun u121 =>
 (pr.call g id_interpreterref04_number u121.2 [t71_80, (LV.int .i64 2), (LV.int .i64 2)]).bind fun t96_123 =>
 (pr.bin .quo t96_123 (LV.int .i64 8)).bind fun t97_124 =>
 (pr.bin .mul t97_124 (LV.int .i64 8)).bind fun t98_125 =>
 (pr.fieldAddr 8 38 t7_44.1).bind fun t99_126 =>
 (pr.store 1 false u121.2 t99_126 t98_125).bind fun u127 =>
 (pr.idxStr t71_80 (LV.int .i64 3)).bind fun t101_129 =>
 (pr.bin .rem t101_129 (LV.int .u8 2)).bind fun t102_130 =>
 (pr.bin .eql t102_130 (LV.int .u8 1)).bind fun t103_131 =>
 (pr.fieldAddr 9 39 t7_44.1).bind fun t104_132 =>
 (pr.store 1 false u127.2 t104_132 t103_131).bind fun u133 =>
 (pr.call g id_interpreterref04_number u133.2 [t71_80, (LV.int .i64 4), (LV.int .i64 4)]).bind fun t106_135 =>
 (pr.conv .u32 t106_135).bind fun t107_136 =>
 (pr.fieldAddr 7 37 t7_44.1).bind fun t108_137 =>
 (pr.store 1 false u133.2 t108_137 t107_136).bind fun u138 =>
 (pr.slc 0 t71_80 (some (LV.int .i64 8)) none).bind fun t110_140 =>
 (pr.fieldAddr 11 41 t7_44.1).bind fun t111_141 =>
 (pr.store 1 false u138.2 t111_141 t110_140).bind fun u142 =>
 (pr.fieldAddr 9 39 t7_44.1).bind fun t112_143 =>
 (pr.load 1 false u142.2 t112_143).bind fun t113_144 =>
 (pr.guard t113_144 true).bind fun b146 =>
 (if b146 = true then pr.fieldAddr 11 41 t7_44.1 else some LV.undef).bind fun t115_146 =>
 (pr.guard t113_144 true).bind fun b147 =>
 (if b147 = true then pr.load 1 false u142.2 t115_146 else some LV.undef).bind fun t116_147 =>
 (pr.guard t113_144 true).bind fun b148 =>
 (if b148 = true then pr.len true t116_147 else some LV.undef).bind fun t117_148 =>
 (pr.guard t113_144 true).bind fun b149 =>
 (if b149 = true then pr.bin .eql t117_148 (LV.int .i64 0) else some LV.undef).bind fun t118_149 =>
 (pr.guard t113_144 true).bind fun b150 =>
 (if b150 = true then some t118_149 else some LV.undef).bind fun t119_150 =>
 (pr.guard t119_150 false).bind fun b151 =>
 (if b151 = true then pr.fieldAddr 11 41 t7_44.1 else some LV.undef).bind fun t120_151 =>
 (pr.guard t119_150 false).bind fun b152 =>
 (if b152 = true then pr.load 1 false u142.2 t120_151 else some LV.undef).bind fun t121_152 =>
 (pr.guard t119_150 false).bind fun b153 =>
 (if b153 = true then pr.len true t121_152 else some LV.undef).bind fun t122_153 =>
 (pr.guard t119_150 false).bind fun b154 =>
 (if b154 = true then pr.bin .rem t122_153 (LV.int .i64 8) else some LV.undef).bind fun t123_154 =>
 (pr.guard t119_150 false).bind fun b155 =>
 (if b155 = true then pr.bin .neq t123_154 (LV.int .i64 0) else some LV.undef).bind fun t124_155 =>
 (pr.guard t113_144 true).bind fun b156 =>
 (if b156 = true then pr.pick t119_150 (LV.bool true) t124_155 else some LV.undef).bind fun t125_156 =>
 (pr.pick t113_144 t125_156 (LV.bool false)).bind fun t126_157 =>
 (pr.guard t126_157 false).bind fun b159 =>
 (if b159 = true then pr.fieldAddr 8 38 t7_44.1 else some LV.undef).bind fun t128_159 =>
 (pr.guard t126_157 false).bind fun b160 =>
 (if b160 = true then pr.load 1 false u142.2 t128_159 else some LV.undef).bind fun t129_160 =>
 (pr.guard t126_157 false).bind fun b161 =>
 (if b161 = true then pr.fieldAddr 11 41 t7_44.1 else some LV.undef).bind fun t130_161 =>
 (pr.guard t126_157 false).bind fun b162 =>
 (if b162 = true then pr.load 1 false u142.2 t130_161 else some LV.undef).bind fun t131_162 =>
 (pr.guard t126_157 false).bind fun b163 =>
 (if b163 = true then pr.len true t131_162 else some LV.undef).bind fun t132_163 =>
 (pr.guard t126_157 false).bind fun b164 =>
 (if b164 = true then pr.bin .add t129_160 t132_163 else some LV.undef).bind fun t133_164 =>
 (pr.guard t126_157 false).bind fun b165 =>
 (if b165 = true then pr.bin .gtr t133_164 (LV.int .i64 65535) else some LV.undef).bind fun t134_165 =>
 (pr.pick t126_157 (LV.bool true) t134_165).bind fun t135_166 =>
 condK t135_166 (
 (pr.load 42 true u142.2 t4_3.1).bind fun t136_167 =>
 (pr.store 42 true u142.2 t2_0.1 t136_167).bind fun u168 =>
 (pr.load 42 true u168.2 t2_0.1).bind fun v170 =>
 pr.fin none u168.2 [v170, (LV.int .i64 8)]) (
 (pr.load 42 true u142.2 t7_44.1).bind fun t137_171 =>
 (pr.store 42 true u142.2 t2_0.1 t137_171).bind fun u172 =>
 (pr.load 42 true u172.2 t2_0.1).bind fun v174 =>
 pr.fin none u172.2 [v174, (LV.int .i64 0)]))))) (none))))
theorem F_interpreterref04_Parse_eq (g : Call) (a0 : LV) : fnEv g c_interpreterref04_Parse [a0] none = F_interpreterref04_Parse g a0 := by kernel_rfl

/-- interpreter/interpreterref04.Same -/
noncomputable def F_interpreterref04_Same (g : Call) (a0 : LV) (a1 : LV) : Option (LV × Option LV) :=
 (pr.box a0).bind fun t2_0 =>
 (pr.box a1).bind fun t3_1 =>
 (pr.fieldAddr 5 35 t2_0).bind fun t6_3 =>
 (pr.load 1 false noSlots t6_3).bind fun t7_4 =>
 (pr.len false t7_4).bind fun t8_5 =>
 (pr.fieldAddr 5 35 t3_1).bind fun t9_6 =>
 (pr.load 1 false noSlots t9_6).bind fun t10_7 =>
 (pr.len false t10_7).bind fun t11_8 =>
 (pr.bin .neq t8_5 t11_8).bind fun t12_9 =>
 condK t12_9 (
 pr.fin none noSlots [(LV.bool false)]) (
 (whileW (fun q12 : List LV × Slots =>
 (pr.fieldAddr 5 35 t2_0).bind fun t14_14 =>
 (pr.load 1 false q12.2 t14_14).bind fun t15_15 =>
 (pr.len false t15_15).bind fun t16_16 =>
 (pr.bin .lss (getL q12.1 1) t16_16).bind fun t17_17 =>
 condK t17_17 (
 (pr.fieldAddr 5 35 t2_0).bind fun t20_18 =>
 (pr.load 1 false q12.2 t20_18).bind fun t21_19 =>
 (pr.idxAddr none 2 t21_19 (getL q12.1 1)).bind fun t23_21 =>
 (pr.load 2 true q12.2 t23_21).bind fun t24_22 =>
 (pr.fieldAddr 5 35 t3_1).bind fun t25_23 =>
 (pr.load 1 false q12.2 t25_23).bind fun t26_24 =>
 (pr.idxAddr none 2 t26_24 (getL q12.1 1)).bind fun t28_26 =>
 (pr.load 2 true q12.2 t28_26).bind fun t29_27 =>
 (pr.eqS (Sh.agg [(Sh.int .i64), Sh.str]) true t24_22 t29_27).bind fun t30_28 =>
 condK t30_28 (
 pr.round noSlots .ret [(LV.bool false), (getL q12.1 1)] q12.2) (
 (pr.bin .add (getL q12.1 1) (LV.int .i64 1)).bind fun t19_31 =>
 pr.round noSlots .normal [(getL q12.1 0), t19_31] q12.2)) (
 pr.round noSlots (.exit 0) [(getL q12.1 0), (getL q12.1 1)] q12.2)) ([(LV.bool false), (LV.int .i64 0)], noSlots)).bind fun r12 =>
 exIf r12.1 (.exit 0) (
 (pr.fieldAddr 0 0 t2_0).bind fun t31_33 =>
 (pr.load 1 false r12.2.2 t31_33).bind fun t32_34 =>
 (pr.fieldAddr 0 0 t3_1).bind fun t33_35 =>
 (pr.load 1 false r12.2.2 t33_35).bind fun t34_36 =>
 (pr.bin .eql t32_34 t34_36).bind fun t35_37 =>
 (pr.guard t35_37 true).bind fun b39 =>
 (if b39 = true then pr.fieldAddr 1 1 t2_0 else some LV.undef).bind fun t37_39 =>
 (pr.guard t35_37 true).bind fun b40 =>
 (if b40 = true then pr.load 1 false r12.2.2 t37_39 else some LV.undef).bind fun t38_40 =>
 (pr.guard t35_37 true).bind fun b41 =>
 (if b41 = true then pr.fieldAddr 1 1 t3_1 else some LV.undef).bind fun t39_41 =>
 (pr.guard t35_37 true).bind fun b42 =>
 (if b42 = true then pr.load 1 false r12.2.2 t39_41 else some LV.undef).bind fun t40_42 =>
 (pr.guard t35_37 true).bind fun b43 =>
 (if b43 = true then pr.bin .eql t38_40 t40_42 else some LV.undef).bind fun t41_43 =>
 (pr.pick t35_37 t41_43 (LV.bool false)).bind fun t42_44 =>
 (pr.guard t42_44 true).bind fun b46 =>
 (if b46 = true then pr.fieldAddr 2 2 t2_0 else some LV.undef).bind fun t44_46 =>
 (pr.guard t42_44 true).bind fun b47 =>
 (if b47 = true then pr.load 1 false r12.2.2 t44_46 else some LV.undef).bind fun t45_47 =>
 (pr.guard t42_44 true).bind fun b48 =>
 (if b48 = true then pr.fieldAddr 2 2 t3_1 else some LV.undef).bind fun t46_48 =>
 (pr.guard t42_44 true).bind fun b49 =>
 (if b49 = true then pr.load 1 false r12.2.2 t46_48 else some LV.undef).bind fun t47_49 =>
 (pr.guard t42_44 true).bind fun b50 =>
 (if b50 = true then pr.bin .eql t45_47 t47_49 else some LV.undef).bind fun t48_50 =>
 (pr.pick t42_44 t48_50 (LV.bool false)).bind fun t49_51 =>
 (pr.guard t49_51 true).bind fun b53 =>
 (if b53 = true then pr.fieldAddr 3 3 t2_0 else some LV.undef).bind fun t51_53 =>
 (pr.guard t49_51 true).bind fun b54 =>
 (if b54 = true then pr.load 16 true r12.2.2 t51_53 else some LV.undef).bind fun t52_54 =>
 (pr.guard t49_51 true).bind fun b55 =>
 (if b55 = true then pr.fieldAddr 3 3 t3_1 else some LV.undef).bind fun t53_55 =>
 (pr.guard t49_51 true).bind fun b56 =>
 (if b56 = true then pr.load 16 true r12.2.2 t53_55 else some LV.undef).bind fun t54_56 =>
 (pr.guard t49_51 true).bind fun b57 =>
 (if b57 = true then pr.eqS (Sh.bytes 16) false t52_54 t54_56 else some LV.undef).bind fun t55_57 =>
 (pr.pick t49_51 t55_57 (LV.bool false)).bind fun t56_58 =>
 (pr.guard t56_58 true).bind fun b60 =>
 (if b60 = true then pr.fieldAddr 4 19 t2_0 else some LV.undef).bind fun t58_60 =>
 (pr.guard t56_58 true).bind fun b61 =>
 (if b61 = true then pr.load 16 true r12.2.2 t58_60 else some LV.undef).bind fun t59_61 =>
 (pr.guard t56_58 true).bind fun b62 =>
 (if b62 = true then pr.fieldAddr 4 19 t3_1 else some LV.undef).bind fun t60_62 =>
 (pr.guard t56_58 true).bind fun b63 =>
 (if b63 = true then pr.load 16 true r12.2.2 t60_62 else some LV.undef).bind fun t61_63 =>
 (pr.guard t56_58 true).bind fun b64 =>
 (if b64 = true then pr.eqS (Sh.bytes 16) false t59_61 t61_63 else some LV.undef).bind fun t62_64 =>
 (pr.pick t56_58 t62_64 (LV.bool false)).bind fun t63_65 =>
 (pr.guard t63_65 true).bind fun b67 =>
 (if b67 = true then pr.fieldAddr 6 36 t2_0 else some LV.undef).bind fun t65_67 =>
 (pr.guard t63_65 true).bind fun b68 =>
 (if b68 = true then pr.load 1 false r12.2.2 t65_67 else some LV.undef).bind fun t66_68 =>
 (pr.guard t63_65 true).bind fun b69 =>
 (if b69 = true then pr.fieldAddr 6 36 t3_1 else some LV.undef).bind fun t67_69 =>
 (pr.guard t63_65 true).bind fun b70 =>
 (if b70 = true then pr.load 1 false r12.2.2 t67_69 else some LV.undef).bind fun t68_70 =>
 (pr.guard t63_65 true).bind fun b71 =>
 (if b71 = true then pr.eqB false t66_68 t68_70 else some LV.undef).bind fun t69_71 =>
 (pr.pick t63_65 t69_71 (LV.bool false)).bind fun t70_72 =>
 (pr.guard t70_72 true).bind fun b74 =>
 (if b74 = true then pr.fieldAddr 7 37 t2_0 else some LV.undef).bind fun t72_74 =>
 (pr.guard t70_72 true).bind fun b75 =>
 (if b75 = true then pr.load 1 false r12.2.2 t72_74 else some LV.undef).bind fun t73_75 =>
 (pr.guard t70_72 true).bind fun b76 =>
 (if b76 = true then pr.fieldAddr 7 37 t3_1 else some LV.undef).bind fun t74_76 =>
 (pr.guard t70_72 true).bind fun b77 =>
 (if b77 = true then pr.load 1 false r12.2.2 t74_76 else some LV.undef).bind fun t75_77 =>
 (pr.guard t70_72 true).bind fun b78 =>
 (if b78 = true then pr.bin .eql t73_75 t75_77 else some LV.undef).bind fun t76_78 =>
 (pr.pick t70_72 t76_78 (LV.bool false)).bind fun t77_79 =>
 (pr.guard t77_79 true).bind fun b81 =>
 (if b81 = true then pr.fieldAddr 8 38 t2_0 else some LV.undef).bind fun t79_81 =>
 (pr.guard t77_79 true).bind fun b82 =>
 (if b82 = true then pr.load 1 false r12.2.2 t79_81 else some LV.undef).bind fun t80_82 =>
 (pr.guard t77_79 true).bind fun b83 =>
 (if b83 = true then pr.fieldAddr 8 38 t3_1 else some LV.undef).bind fun t81_83 =>
 (pr.guard t77_79 true).bind fun b84 =>
 (if b84 = true then pr.load 1 false r12.2.2 t81_83 else some LV.undef).bind fun t82_84 =>
 (pr.guard t77_79 true).bind fun b85 =>
 (if b85 = true then pr.bin .eql t80_82 t82_84 else some LV.undef).bind fun t83_85 =>
 (pr.pick t77_79 t83_85 (LV.bool false)).bind fun t84_86 =>
 (pr.guard t84_86 true).bind fun b88 =>
 (if b88 = true then pr.fieldAddr 9 39 t2_0 else some LV.undef).bind fun t86_88 =>
 (pr.guard t84_86 true).bind fun b89 =>
 (if b89 = true then pr.load 1 false r12.2.2 t86_88 else some LV.undef).bind fun t87_89 =>
 (pr.guard t84_86 true).bind fun b90 =>
 (if b90 = true then pr.fieldAddr 9 39 t3_1 else some LV.undef).bind fun t88_90 =>
 (pr.guard t84_86 true).bind fun b91 =>
 (if b91 = true then pr.load 1 false r12.2.2 t88_90 else some LV.undef).bind fun t89_91 =>
 (pr.guard t84_86 true).bind fun b92 =>
 (if b92 = true then pr.eqB false t87_89 t89_91 else some LV.undef).bind fun t90_92 =>
 (pr.pick t84_86 t90_92 (LV.bool false)).bind fun t91_93 =>
 (pr.guard t91_93 true).bind fun b95 =>
 (if b95 = true then pr.fieldAddr 10 40 t2_0 else some LV.undef).bind fun t93_95 =>
 (pr.guard t91_93 true).bind fun b96 =>
 (if b96 = true then pr.load 1 false r12.2.2 t93_95 else some LV.undef).bind fun t94_96 =>
 (pr.guard t91_93 true).bind fun b97 =>
 (if b97 = true then pr.fieldAddr 10 40 t3_1 else some LV.undef).bind fun t95_97 =>
 (pr.guard t91_93 true).bind fun b98 =>
 (if b98 = true then pr.load 1 false r12.2.2 t95_97 else some LV.undef).bind fun t96_98 =>
 (pr.guard t91_93 true).bind fun b99 =>
 (if b99 = true then pr.bin .eql t94_96 t96_98 else some LV.undef).bind fun t97_99 =>
 (pr.pick t91_93 t97_99 (LV.bool false)).bind fun t98_100 =>
 (pr.guard t98_100 true).bind fun b102 =>
 (if b102 = true then pr.fieldAddr 11 41 t2_0 else some LV.undef).bind fun t100_102 =>
 (pr.guard t98_100 true).bind fun b103 =>
 (if b103 = true then pr.load 1 false r12.2.2 t100_102 else some LV.undef).bind fun t101_103 =>
 (pr.guard t98_100 true).bind fun b104 =>
 (if b104 = true then pr.fieldAddr 11 41 t3_1 else some LV.undef).bind fun t102_104 =>
 (pr.guard t98_100 true).bind fun b105 =>
 (if b105 = true then pr.load 1 false r12.2.2 t102_104 else some LV.undef).bind fun t103_105 =>
 (pr.guard t98_100 true).bind fun b106 =>
 (if b106 = true then pr.bin .eql t101_103 t103_105 else some LV.undef).bind fun t104_106 =>
 (pr.pick t98_100 t104_106 (LV.bool false)).bind fun t105_107 =>
 pr.fin none r12.2.2 [t105_107]) (exIf r12.1 .ret (
 pr.fin none r12.2.2 [(getL r12.2.1 0)]) (none)))
theorem F_interpreterref04_Same_eq (g : Call) (a0 : LV) (a1 : LV) : fnEv g c_interpreterref04_Same [a0, a1] none = F_interpreterref04_Same g a0 a1 := by kernel_rfl

/-- interpreter/interpreterlaw04.same -/
noncomputable def F_interpreterlaw04_same (g : Call) (a0 : LV) (a1 : LV) : Option (LV × Option LV) :=
 (pr.bin .eql a1 (LV.int .i64 0)).bind fun t8_2 =>
 condK t8_2 (
 (pr.eqNil 1 false a0).bind fun t10_4 =>
 pr.fin none noSlots [t10_4]) (
 (pr.assert ty_ptr_num_Fault true LV.nilp a0).bind fun t13_7 =>
 (pr.extract t13_7 0).bind fun t14_9 =>
 (pr.extract t13_7 1).bind fun t15_10 =>
 (pr.guard t15_10 true).bind fun b15 =>
 (if b15 = true then some t14_9 else some LV.undef).bind fun t18_15 =>
 (pr.guard t15_10 true).bind fun b16 =>
 (if b16 = true then pr.eqNil 0 true t18_15 else some LV.undef).bind fun t19_16 =>
 (pr.pick t15_10 t19_16 (LV.bool false)).bind fun t20_17 =>
 (pr.guard t20_17 true).bind fun b19 =>
 (if b19 = true then some t14_9 else some LV.undef).bind fun t22_19 =>
 (pr.guard t20_17 true).bind fun b20 =>
 (if b20 = true then pr.nilCheck t22_19 else some LV.undef).bind fun t23_20 =>
 (pr.guard t20_17 true).bind fun b21 =>
 (if b21 = true then pr.fieldAddr 0 0 t23_20 else some LV.undef).bind fun t24_21 =>
 (pr.guard t20_17 true).bind fun b22 =>
 (if b22 = true then pr.load 1 false noSlots t24_21 else some LV.undef).bind fun t25_22 =>
 (pr.guard t20_17 true).bind fun b23 =>
 (if b23 = true then some a1 else some LV.undef).bind fun t26_23 =>
 (pr.guard t20_17 true).bind fun b24 =>
 (if b24 = true then pr.bin .eql t25_22 t26_23 else some LV.undef).bind fun t27_24 =>
 (pr.pick t20_17 t27_24 (LV.bool false)).bind fun t28_25 =>
 (pr.guard t28_25 true).bind fun b27 =>
 (if b27 = true then some t14_9 else some LV.undef).bind fun t30_27 =>
 (pr.guard t28_25 true).bind fun b28 =>
 (if b28 = true then pr.nilCheck t30_27 else some LV.undef).bind fun t31_28 =>
 (pr.guard t28_25 true).bind fun b29 =>
 (if b29 = true then pr.fieldAddr 1 1 t31_28 else some LV.undef).bind fun t32_29 =>
 (pr.guard t28_25 true).bind fun b30 =>
 (if b30 = true then pr.load 1 false noSlots t32_29 else some LV.undef).bind fun t33_30 =>
 (pr.guard t28_25 true).bind fun b31 =>
 (if b31 = true then pr.bin .eql t33_30 (LV.int .i64 0) else some LV.undef).bind fun t34_31 =>
 (pr.pick t28_25 t34_31 (LV.bool false)).bind fun t35_32 =>
 pr.fin none noSlots [t35_32])
theorem F_interpreterlaw04_same_eq (g : Call) (a0 : LV) (a1 : LV) : fnEv g c_interpreterlaw04_same [a0, a1] none = F_interpreterlaw04_same g a0 a1 := by kernel_rfl

/-- interpreter/ip6.Chain -/
noncomputable def F_ip6_Chain (g : Call) (a0 : LV) (a1 : LV) : Option (LV × Option LV) :=
 (whileW (fun q4 : List LV × Slots =>
 (pr.call g id_ip6_extends q4.2 [(getL q4.1 4)]).bind fun t11_6 =>
 condK t11_6 (
 (pr.len true (getL q4.1 5)).bind fun t13_10 =>
 (pr.bin .geq t13_10 (LV.int .i64 2)).bind fun t14_11 =>
 condK t14_11 (
 (pr.idxStr (getL q4.1 5) (LV.int .i64 1)).bind fun t17_14 =>
 (pr.conv .i64 t17_14).bind fun t18_15 =>
 (pr.bin .mul t18_15 (LV.int .i64 8)).bind fun t19_16 =>
 (pr.bin .add (LV.int .i64 8) t19_16).bind fun t20_17 =>
 (pr.bin .eql (getL q4.1 4) (LV.int .i64 0)).bind fun t23_20 =>
 (pr.guard t23_20 true).bind fun b22 =>
 (if b22 = true then some (getL q4.1 0) else some LV.undef).bind fun t25_22 =>
 (pr.guard t23_20 true).bind fun b23 =>
 (if b23 = true then pr.len false t25_22 else some LV.undef).bind fun t26_23 =>
 (pr.guard t23_20 true).bind fun b24 =>
 (if b24 = true then pr.bin .gtr t26_23 (LV.int .i64 0) else some LV.undef).bind fun t27_24 =>
 (pr.pick t23_20 t27_24 (LV.bool false)).bind fun t28_25 =>
 condK t28_25 (
 (pr.bin .neq (LV.int .i64 8) (LV.int .i64 0)).bind fun t39_29 =>
 condK t39_29 (
 (pr.call g id_ip6_fault q4.2 [(LV.int .i64 8)]).bind fun t41_31 =>
 pr.round noSlots .ret [LV.nils, (LV.int .i64 0), (LV.str []), t41_31, (getL q4.1 4), (getL q4.1 5)] q4.2) (
 (pr.slc 0 (getL q4.1 5) (some (LV.int .i64 2)) (some t20_17)).bind fun t46_40 =>
 (pr.parts (LV.agg [(LV.int .i64 0), (LV.str [])]) [(0, (getL q4.1 4)), (1, t46_40)]).bind fun t47_41 =>
 (pr.bsl (LV.agg [(LV.int .i64 0), (LV.str [])]) 1 [(0, t47_41)]).bind fun t48_42 =>
 (pr.append 2 24 49 q4.2 (getL q4.1 0) t48_42).bind fun t49_43 =>
 (pr.idxStr (getL q4.1 5) (LV.int .i64 0)).bind fun t51_46 =>
 (pr.conv .i64 t51_46).bind fun t52_47 =>
 (pr.slc 0 (getL q4.1 5) (some t20_17) none).bind fun t55_50 =>
 pr.round noSlots .normal [t49_43.1, (getL q4.1 1), (getL q4.1 2), (getL q4.1 3), t52_47, t55_50] t49_43.2)) (
 (pr.len false (getL q4.1 0)).bind fun t31_54 =>
 (pr.bin .geq t31_54 (LV.int .i64 8)).bind fun t32_55 =>
 condK t32_55 (
 (pr.bin .neq (LV.int .i64 3) (LV.int .i64 0)).bind fun t39_59 =>
 condK t39_59 (
 (pr.call g id_ip6_fault q4.2 [(LV.int .i64 3)]).bind fun t41_61 =>
 pr.round noSlots .ret [LV.nils, (LV.int .i64 0), (LV.str []), t41_61, (getL q4.1 4), (getL q4.1 5)] q4.2) (
 (pr.slc 0 (getL q4.1 5) (some (LV.int .i64 2)) (some t20_17)).bind fun t46_70 =>
 (pr.parts (LV.agg [(LV.int .i64 0), (LV.str [])]) [(0, (getL q4.1 4)), (1, t46_70)]).bind fun t47_71 =>
 (pr.bsl (LV.agg [(LV.int .i64 0), (LV.str [])]) 1 [(0, t47_71)]).bind fun t48_72 =>
 (pr.append 2 24 49 q4.2 (getL q4.1 0) t48_72).bind fun t49_73 =>
 (pr.idxStr (getL q4.1 5) (LV.int .i64 0)).bind fun t51_76 =>
 (pr.conv .i64 t51_76).bind fun t52_77 =>
 (pr.slc 0 (getL q4.1 5) (some t20_17) none).bind fun t55_80 =>
 pr.round noSlots .normal [t49_73.1, (getL q4.1 1), (getL q4.1 2), (getL q4.1 3), t52_77, t55_80] t49_73.2)) (
 (pr.len true (getL q4.1 5)).bind fun t35_84 =>
 (pr.bin .lss t35_84 t20_17).bind fun t37_86 =>
 condK t37_86 (
 (pr.bin .neq (LV.int .i64 7) (LV.int .i64 0)).bind fun t39_90 =>
 condK t39_90 (
 (pr.call g id_ip6_fault q4.2 [(LV.int .i64 7)]).bind fun t41_92 =>
 pr.round noSlots .ret [LV.nils, (LV.int .i64 0), (LV.str []), t41_92, (getL q4.1 4), (getL q4.1 5)] q4.2) (
 (pr.slc 0 (getL q4.1 5) (some (LV.int .i64 2)) (some t20_17)).bind fun t46_101 =>
 (pr.parts (LV.agg [(LV.int .i64 0), (LV.str [])]) [(0, (getL q4.1 4)), (1, t46_101)]).bind fun t47_102 =>
 (pr.bsl (LV.agg [(LV.int .i64 0), (LV.str [])]) 1 [(0, t47_102)]).bind fun t48_103 =>
 (pr.append 2 24 49 q4.2 (getL q4.1 0) t48_103).bind fun t49_104 =>
 (pr.idxStr (getL q4.1 5) (LV.int .i64 0)).bind fun t51_107 =>
 (pr.conv .i64 t51_107).bind fun t52_108 =>
 (pr.slc 0 (getL q4.1 5) (some t20_17) none).bind fun t55_111 =>
 pr.round noSlots .normal [t49_104.1, (getL q4.1 1), (getL q4.1 2), (getL q4.1 3), t52_108, t55_111] t49_104.2)) (
 (pr.bin .neq (LV.int .i64 0) (LV.int .i64 0)).bind fun t39_115 =>
 condK t39_115 (
 (pr.call g id_ip6_fault q4.2 [(LV.int .i64 0)]).bind fun t41_117 =>
 pr.round noSlots .ret [LV.nils, (LV.int .i64 0), (LV.str []), t41_117, (getL q4.1 4), (getL q4.1 5)] q4.2) (
 (pr.slc 0 (getL q4.1 5) (some (LV.int .i64 2)) (some t20_17)).bind fun t46_126 =>
 (pr.parts (LV.agg [(LV.int .i64 0), (LV.str [])]) [(0, (getL q4.1 4)), (1, t46_126)]).bind fun t47_127 =>
 (pr.bsl (LV.agg [(LV.int .i64 0), (LV.str [])]) 1 [(0, t47_127)]).bind fun t48_128 =>
 (pr.append 2 24 49 q4.2 (getL q4.1 0) t48_128).bind fun t49_129 =>
 (pr.idxStr (getL q4.1 5) (LV.int .i64 0)).bind fun t51_132 =>
 (pr.conv .i64 t51_132).bind fun t52_133 =>
 (pr.slc 0 (getL q4.1 5) (some t20_17) none).bind fun t55_136 =>
 pr.round noSlots .normal [t49_129.1, (getL q4.1 1), (getL q4.1 2), (getL q4.1 3), t52_133, t55_136] t49_129.2))))) (
 (pr.bin .eql (getL q4.1 4) (LV.int .i64 0)).bind fun t23_140 =>
 (pr.guard t23_140 true).bind fun b142 =>
 (if b142 = true then some (getL q4.1 0) else some LV.undef).bind fun t25_142 =>
 (pr.guard t23_140 true).bind fun b143 =>
 (if b143 = true then pr.len false t25_142 else some LV.undef).bind fun t26_143 =>
 (pr.guard t23_140 true).bind fun b144 =>
 (if b144 = true then pr.bin .gtr t26_143 (LV.int .i64 0) else some LV.undef).bind fun t27_144 =>
 (pr.pick t23_140 t27_144 (LV.bool false)).bind fun t28_145 =>
 condK t28_145 (
 (pr.bin .neq (LV.int .i64 8) (LV.int .i64 0)).bind fun t39_149 =>
 condK t39_149 (
 (pr.call g id_ip6_fault q4.2 [(LV.int .i64 8)]).bind fun t41_151 =>
 pr.round noSlots .ret [LV.nils, (LV.int .i64 0), (LV.str []), t41_151, (getL q4.1 4), (getL q4.1 5)] q4.2) (
 (pr.slc 0 (getL q4.1 5) (some (LV.int .i64 2)) (some (LV.int .i64 8))).bind fun t46_160 =>
 (pr.parts (LV.agg [(LV.int .i64 0), (LV.str [])]) [(0, (getL q4.1 4)), (1, t46_160)]).bind fun t47_161 =>
 (pr.bsl (LV.agg [(LV.int .i64 0), (LV.str [])]) 1 [(0, t47_161)]).bind fun t48_162 =>
 (pr.append 2 24 49 q4.2 (getL q4.1 0) t48_162).bind fun t49_163 =>
 (pr.idxStr (getL q4.1 5) (LV.int .i64 0)).bind fun t51_166 =>
 (pr.conv .i64 t51_166).bind fun t52_167 =>
 (pr.slc 0 (getL q4.1 5) (some (LV.int .i64 8)) none).bind fun t55_170 =>
 pr.round noSlots .normal [t49_163.1, (getL q4.1 1), (getL q4.1 2), (getL q4.1 3), t52_167, t55_170] t49_163.2)) (
 (pr.len false (getL q4.1 0)).bind fun t31_174 =>
 (pr.bin .geq t31_174 (LV.int .i64 8)).bind fun t32_175 =>
 condK t32_175 (
 (pr.bin .neq (LV.int .i64 3) (LV.int .i64 0)).bind fun t39_179 =>
 condK t39_179 (
 (pr.call g id_ip6_fault q4.2 [(LV.int .i64 3)]).bind fun t41_181 =>
 pr.round noSlots .ret [LV.nils, (LV.int .i64 0), (LV.str []), t41_181, (getL q4.1 4), (getL q4.1 5)] q4.2) (
 (pr.slc 0 (getL q4.1 5) (some (LV.int .i64 2)) (some (LV.int .i64 8))).bind fun t46_190 =>
 (pr.parts (LV.agg [(LV.int .i64 0), (LV.str [])]) [(0, (getL q4.1 4)), (1, t46_190)]).bind fun t47_191 =>
 (pr.bsl (LV.agg [(LV.int .i64 0), (LV.str [])]) 1 [(0, t47_191)]).bind fun t48_192 =>
 (pr.append 2 24 49 q4.2 (getL q4.1 0) t48_192).bind fun t49_193 =>
 (pr.idxStr (getL q4.1 5) (LV.int .i64 0)).bind fun t51_196 =>
 (pr.conv .i64 t51_196).bind fun t52_197 =>
 (pr.slc 0 (getL q4.1 5) (some (LV.int .i64 8)) none).bind fun t55_200 =>
 pr.round noSlots .normal [t49_193.1, (getL q4.1 1), (getL q4.1 2), (getL q4.1 3), t52_197, t55_200] t49_193.2)) (
 (pr.len true (getL q4.1 5)).bind fun t35_204 =>
 (pr.bin .lss t35_204 (LV.int .i64 8)).bind fun t37_206 =>
 condK t37_206 (
 (pr.bin .neq (LV.int .i64 7) (LV.int .i64 0)).bind fun t39_210 =>
 condK t39_210 (
 (pr.call g id_ip6_fault q4.2 [(LV.int .i64 7)]).bind fun t41_212 =>
 pr.round noSlots .ret [LV.nils, (LV.int .i64 0), (LV.str []), t41_212, (getL q4.1 4), (getL q4.1 5)] q4.2) (
 (pr.slc 0 (getL q4.1 5) (some (LV.int .i64 2)) (some (LV.int .i64 8))).bind fun t46_221 =>
 (pr.parts (LV.agg [(LV.int .i64 0), (LV.str [])]) [(0, (getL q4.1 4)), (1, t46_221)]).bind fun t47_222 =>
 (pr.bsl (LV.agg [(LV.int .i64 0), (LV.str [])]) 1 [(0, t47_222)]).bind fun t48_223 =>
 (pr.append 2 24 49 q4.2 (getL q4.1 0) t48_223).bind fun t49_224 =>
 (pr.idxStr (getL q4.1 5) (LV.int .i64 0)).bind fun t51_227 =>
 (pr.conv .i64 t51_227).bind fun t52_228 =>
 (pr.slc 0 (getL q4.1 5) (some (LV.int .i64 8)) none).bind fun t55_231 =>
 pr.round noSlots .normal [t49_224.1, (getL q4.1 1), (getL q4.1 2), (getL q4.1 3), t52_228, t55_231] t49_224.2)) (
 (pr.bin .neq (LV.int .i64 0) (LV.int .i64 0)).bind fun t39_235 =>
 condK t39_235 (
 (pr.call g id_ip6_fault q4.2 [(LV.int .i64 0)]).bind fun t41_237 =>
 pr.round noSlots .ret [LV.nils, (LV.int .i64 0), (LV.str []), t41_237, (getL q4.1 4), (getL q4.1 5)] q4.2) (
 (pr.slc 0 (getL q4.1 5) (some (LV.int .i64 2)) (some (LV.int .i64 8))).bind fun t46_246 =>
 (pr.parts (LV.agg [(LV.int .i64 0), (LV.str [])]) [(0, (getL q4.1 4)), (1, t46_246)]).bind fun t47_247 =>
 (pr.bsl (LV.agg [(LV.int .i64 0), (LV.str [])]) 1 [(0, t47_247)]).bind fun t48_248 =>
 (pr.append 2 24 49 q4.2 (getL q4.1 0) t48_248).bind fun t49_249 =>
 (pr.idxStr (getL q4.1 5) (LV.int .i64 0)).bind fun t51_252 =>
 (pr.conv .i64 t51_252).bind fun t52_253 =>
 (pr.slc 0 (getL q4.1 5) (some (LV.int .i64 8)) none).bind fun t55_256 =>
 pr.round noSlots .normal [t49_249.1, (getL q4.1 1), (getL q4.1 2), (getL q4.1 3), t52_253, t55_256] t49_249.2)))))) (
 pr.round noSlots (.exit 0) [(getL q4.1 0), (getL q4.1 1), (getL q4.1 2), (getL q4.1 3), (getL q4.1 4), (getL q4.1 5)] q4.2)) ([LV.nils, (LV.int .i64 0), (LV.str []), LV.nili, a0, a1], noSlots)).bind fun r4 =>
 exIf r4.1 (.exit 0) (
 pr.fin none r4.2.2 [(getL r4.2.1 0), (getL r4.2.1 4), (getL r4.2.1 5), LV.nili]) (exIf r4.1 .ret (
 pr.fin none r4.2.2 [(getL r4.2.1 0), (getL r4.2.1 1), (getL r4.2.1 2), (getL r4.2.1 3)]) (none))
theorem F_ip6_Chain_eq (g : Call) (a0 : LV) (a1 : LV) : fnEv g c_ip6_Chain [a0, a1] none = F_ip6_Chain g a0 a1 := by kernel_rfl

/-- interpreter/interpreterref04.Chain -/
noncomputable def F_interpreterref04_Chain (g : Call) (a0 : LV) (a1 : LV) : Option (LV × Option LV) :=
 (pr.nilT 2 8 noSlots).bind fun t8_4 =>
 (whileW (fun q5 : List LV × Slots =>
 (pr.bin .eql (getL q5.1 5) (LV.int .i64 0)).bind fun t11_7 =>
 (pr.guard t11_7 false).bind fun b9 =>
 (if b9 = true then some (getL q5.1 5) else some LV.undef).bind fun t13_9 =>
 (pr.guard t11_7 false).bind fun b10 =>
 (if b10 = true then pr.bin .eql t13_9 (LV.int .i64 43) else some LV.undef).bind fun t14_10 =>
 (pr.pick t11_7 (LV.bool true) t14_10).bind fun t15_11 =>
 (pr.guard t15_11 false).bind fun b13 =>
 (if b13 = true then some (getL q5.1 5) else some LV.undef).bind fun t17_13 =>
 (pr.guard t15_11 false).bind fun b14 =>
 (if b14 = true then pr.bin .eql t17_13 (LV.int .i64 60) else some LV.undef).bind fun t18_14 =>
 (pr.pick t15_11 (LV.bool true) t18_14).bind fun t19_15 =>
 condK t19_15 (
 (pr.bin .eql (getL q5.1 5) (LV.int .i64 0)).bind fun t21_17 =>
 (pr.guard t21_17 true).bind fun b19 =>
 (if b19 = true then some (getL q5.1 4) else some LV.undef).bind fun t23_19 =>
 (pr.guard t21_17 true).bind fun b20 =>
 (if b20 = true then pr.len false t23_19 else some LV.undef).bind fun t24_20 =>
 (pr.guard t21_17 true).bind fun b21 =>
 (if b21 = true then pr.bin .gtr t24_20 (LV.int .i64 0) else some LV.undef).bind fun t25_21 =>
 (pr.pick t21_17 t25_21 (LV.bool false)).bind fun t26_22 =>
 condK t26_22 (
 pr.round t8_4.2 .ret [LV.nils, (LV.int .i64 0), (LV.str []), (LV.int .i64 8), (getL q5.1 4), (getL q5.1 5), (getL q5.1 6)] q5.2) (
 (pr.len false (getL q5.1 4)).bind fun t28_28 =>
 (pr.bin .eql t28_28 (LV.int .i64 8)).bind fun t29_29 =>
 condK t29_29 (
 pr.round t8_4.2 .ret [LV.nils, (LV.int .i64 0), (LV.str []), (LV.int .i64 3), (getL q5.1 4), (getL q5.1 5), (getL q5.1 6)] q5.2) (
 (pr.len true (getL q5.1 6)).bind fun t31_35 =>
 (pr.bin .lss t31_35 (LV.int .i64 8)).bind fun t32_36 =>
 (pr.guard t32_36 false).bind fun b38 =>
 (if b38 = true then some (getL q5.1 6) else some LV.undef).bind fun t34_38 =>
 (pr.guard t32_36 false).bind fun b39 =>
 (if b39 = true then pr.len true t34_38 else some LV.undef).bind fun t35_39 =>
 (pr.guard t32_36 false).bind fun b40 =>
 (if b40 = true then some (getL q5.1 6) else some LV.undef).bind fun t36_40 =>
 (pr.guard t32_36 false).bind fun b41 =>
 (if b41 = true then pr.idxStr t36_40 (LV.int .i64 1) else some LV.undef).bind fun t37_41 =>
 (pr.guard t32_36 false).bind fun b42 =>
 (if b42 = true then pr.conv .i64 t37_41 else some LV.undef).bind fun t38_42 =>
 (pr.guard t32_36 false).bind fun b43 =>
 (if b43 = true then pr.bin .add (LV.int .i64 1) t38_42 else some LV.undef).bind fun t39_43 =>
 (pr.guard t32_36 false).bind fun b44 =>
 (if b44 = true then pr.bin .mul (LV.int .i64 8) t39_43 else some LV.undef).bind fun t40_44 =>
 (pr.guard t32_36 false).bind fun b45 =>
 (if b45 = true then pr.bin .lss t35_39 t40_44 else some LV.undef).bind fun t41_45 =>
 (pr.pick t32_36 (LV.bool true) t41_45).bind fun t42_46 =>
 condK t42_46 (
 pr.round t8_4.2 .ret [LV.nils, (LV.int .i64 0), (LV.str []), (LV.int .i64 7), (getL q5.1 4), (getL q5.1 5), (getL q5.1 6)] q5.2) (
 (pr.idxStr (getL q5.1 6) (LV.int .i64 1)).bind fun t44_52 =>
 (pr.conv .i64 t44_52).bind fun t45_53 =>
 (pr.bin .add (LV.int .i64 1) t45_53).bind fun t46_54 =>
 (pr.bin .mul (LV.int .i64 8) t46_54).bind fun t47_55 =>
 (pr.slc 0 (getL q5.1 6) (some (LV.int .i64 2)) (some t47_55)).bind fun t52_61 =>
 (pr.parts (LV.agg [(LV.int .i64 0), (LV.str [])]) [(0, (getL q5.1 5)), (1, t52_61)]).bind fun t53_62 =>
 (pr.bsl (LV.agg [(LV.int .i64 0), (LV.str [])]) 1 [(0, t53_62)]).bind fun t54_63 =>
 (pr.append 2 24 55 q5.2 (getL q5.1 4) t54_63).bind fun t55_64 =>
 (pr.idxStr (getL q5.1 6) (LV.int .i64 0)).bind fun t57_67 =>
 (pr.conv .i64 t57_67).bind fun t58_68 =>
 (pr.slc 0 (getL q5.1 6) (some t47_55) none).bind fun t61_72 =>
 pr.round t8_4.2 .normal [(getL q5.1 0), (getL q5.1 1), (getL q5.1 2), (getL q5.1 3), t55_64.1, t58_68, t61_72] t55_64.2)))) (
 pr.round t8_4.2 (.exit 0) [(getL q5.1 0), (getL q5.1 1), (getL q5.1 2), (getL q5.1 3), (getL q5.1 4), (getL q5.1 5), (getL q5.1 6)] q5.2)) ([LV.nils, (LV.int .i64 0), (LV.str []), (LV.int .i64 0), t8_4.1, a0, a1], t8_4.2)).bind fun r5 =>
 exIf r5.1 (.exit 0) (
 pr.fin none r5.2.2 [(getL r5.2.1 4), (getL r5.2.1 5), (getL r5.2.1 6), (LV.int .i64 0)]) (exIf r5.1 .ret (
 pr.fin none r5.2.2 [(getL r5.2.1 0), (getL r5.2.1 1), (getL r5.2.1 2), (getL r5.2.1 3)]) (exIf r5.1 .ret (
 pr.fin none r5.2.2 [(getL r5.2.1 0), (getL r5.2.1 1), (getL r5.2.1 2), (getL r5.2.1 3)]) (exIf r5.1 .ret (
 pr.fin none r5.2.2 [(getL r5.2.1 0), (getL r5.2.1 1), (getL r5.2.1 2), (getL r5.2.1 3)]) (none))))
theorem F_interpreterref04_Chain_eq (g : Call) (a0 : LV) (a1 : LV) : fnEv g c_interpreterref04_Chain [a0, a1] none = F_interpreterref04_Chain g a0 a1 := by kernel_rfl

/-- interpreter/interpreterlaw04.Great -/
noncomputable def F_interpreterlaw04_Great (g : Call) (a0 : LV) : Option (LV × Option LV) :=
 (pr.box a0).bind fun t1_0 =>
 (pr.fieldAddr 11 41 t1_0).bind fun t5_2 =>
 (pr.load 1 false noSlots t5_2).bind fun t6_3 =>
 (pr.len true t6_3).bind fun t7_4 =>
 (whileW (fun q7 : List LV × Slots =>
 (pr.fieldAddr 5 35 t1_0).bind fun t9_9 =>
 (pr.load 1 false q7.2 t9_9).bind fun t10_10 =>
 (pr.len false t10_10).bind fun t11_11 =>
 (pr.bin .lss (getL q7.1 1) t11_11).bind fun t12_12 =>
 (pr.guard t12_12 true).bind fun b14 =>
 (if b14 = true then some (getL q7.1 1) else some LV.undef).bind fun t14_14 =>
 (pr.guard t12_12 true).bind fun b15 =>
 (if b15 = true then pr.bin .leq t14_14 (LV.int .i64 20) else some LV.undef).bind fun t15_15 =>
 (pr.pick t12_12 t15_15 (LV.bool false)).bind fun t16_16 =>
 condK t16_16 (
 (pr.fieldAddr 5 35 t1_0).bind fun t20_18 =>
 (pr.load 1 false q7.2 t20_18).bind fun t21_19 =>
 (pr.idxAddr none 2 t21_19 (getL q7.1 1)).bind fun t23_21 =>
 (pr.fieldAddr 1 1 t23_21).bind fun t24_22 =>
 (pr.load 1 false q7.2 t24_22).bind fun t25_23 =>
 (pr.len true t25_23).bind fun t26_24 =>
 (pr.minmax false t26_24 [(LV.int .i64 70001)]).bind fun t27_25 =>
 (pr.bin .add (getL q7.1 0) t27_25).bind fun t28_26 =>
 (pr.bin .add (getL q7.1 1) (LV.int .i64 1)).bind fun t18_29 =>
 pr.round noSlots .normal [t28_26, t18_29] q7.2) (
 pr.round noSlots (.exit 0) [(getL q7.1 0), (getL q7.1 1)] q7.2)) ([t7_4, (LV.int .i64 0)], noSlots)).bind fun r7 =>
 exIf r7.1 (.exit 0) (
 (pr.fieldAddr 5 35 t1_0).bind fun t29_31 =>
 (pr.load 1 false r7.2.2 t29_31).bind fun t30_32 =>
 (pr.len false t30_32).bind fun t31_33 =>
 (pr.bin .gtr t31_33 (LV.int .i64 20)).bind fun t32_34 =>
 (pr.guard t32_34 false).bind fun b36 =>
 (if b36 = true then some (getL r7.2.1 0) else some LV.undef).bind fun t34_36 =>
 (pr.guard t32_34 false).bind fun b37 =>
 (if b37 = true then pr.bin .gtr t34_36 (LV.int .i64 70000) else some LV.undef).bind fun t35_37 =>
 (pr.pick t32_34 (LV.bool true) t35_37).bind fun t36_38 =>
 pr.fin none r7.2.2 [t36_38]) (none)
theorem F_interpreterlaw04_Great_eq (g : Call) (a0 : LV) : fnEv g c_interpreterlaw04_Great [a0] none = F_interpreterlaw04_Great g a0 := by kernel_rfl

/-- interpreter/ip6.Bytes -/
noncomputable def F_ip6_Bytes (g : Call) (a0 : LV) : Option (LV × Option LV) :=
 (pr.box a0).bind fun t1_0 =>
 (pr.load 42 true noSlots t1_0).bind fun t10_3 =>
 (pr.call g id_ip6_why noSlots [t10_3]).bind fun t11_4 =>
 (pr.bin .neq t11_4 (LV.int .i64 0)).bind fun t13_7 =>
 condK t13_7 (
 (pr.call g id_ip6_fault noSlots [t11_4]).bind fun t15_9 =>
 pr.fin none noSlots [(LV.str []), t15_9]) (
 (pr.fieldAddr 10 40 t1_0).bind fun t16_12 =>
 (pr.load 1 false noSlots t16_12).bind fun t17_13 =>
 (pr.fieldAddr 11 41 t1_0).bind fun t18_14 =>
 (pr.load 1 false noSlots t18_14).bind fun t19_15 =>
 (pr.fieldAddr 6 36 t1_0).bind fun t20_18 =>
 (pr.load 1 false noSlots t20_18).bind fun t21_19 =>
 condK t21_19 (
 (pr.fieldAddr 8 38 t1_0).bind fun t22_20 =>
 (pr.load 1 false noSlots t22_20).bind fun t23_21 =>
 (pr.fieldAddr 9 39 t1_0).bind fun t24_23 =>
 (pr.load 1 false noSlots t24_23).bind fun t25_24 =>
 condK t25_24 (
 (pr.bin .add t23_21 (LV.int .i64 1)).bind fun t27_26 =>
 (pr.call g id_ip6_big noSlots [t17_13, (LV.int .i64 1)]).bind fun t29_29 =>
 (pr.bin .add t29_29 (LV.str [0])).bind fun t30_30 =>
 (pr.call g id_ip6_big noSlots [t27_26, (LV.int .i64 2)]).bind fun t32_32 =>
 (pr.bin .add t30_30 t32_32).bind fun t33_33 =>
 (pr.fieldAddr 7 37 t1_0).bind fun t34_34 =>
 (pr.load 1 false noSlots t34_34).bind fun t35_35 =>
 (pr.conv .i64 t35_35).bind fun t36_36 =>
 (pr.call g id_ip6_big noSlots [t36_36, (LV.int .i64 4)]).bind fun t37_37 =>
 (pr.bin .add t33_33 t37_37).bind fun t38_38 =>
 (pr.bin .add t38_38 t19_15).bind fun t40_40 =>
 (pr.fieldAddr 5 35 t1_0).bind fun t41_43 =>
 (pr.load 1 false noSlots t41_43).bind fun t42_44 =>
 (pr.len false t42_44).bind fun t43_45 =>
 (pr.bin .sub t43_45 (LV.int .i64 1)).bind fun t44_46 =>
 (whileW (fun q48 : List LV × Slots =>
 (pr.bin .geq (getL q48.1 2) (LV.int .i64 0)).bind fun t46_50 =>
 condK t46_50 (
 (pr.fieldAddr 5 35 t1_0).bind fun t49_51 =>
 (pr.load 1 false q48.2 t49_51).bind fun t50_52 =>
 (pr.idxAddr none 2 t50_52 (getL q48.1 2)).bind fun t52_54 =>
 (pr.load 2 true q48.2 t52_54).bind fun t53_55 =>
 (pr.alloc (LV.agg [(LV.int .i64 0), (LV.str [])]) 9 q48.2).bind fun t9_56 =>
 (pr.store 2 true t9_56.2 t9_56.1 t53_55).bind fun u57 =>
 (pr.call g id_ip6_big u57.2 [(getL q48.1 1), (LV.int .i64 1)]).bind fun t55_59 =>
 (pr.fieldAddr 1 1 t9_56.1).bind fun t56_60 =>
 (pr.load 1 false u57.2 t56_60).bind fun t57_61 =>
 (pr.len true t57_61).bind fun t58_62 =>
 (pr.bin .quo t58_62 (LV.int .i64 8)).bind fun t59_63 =>
 (pr.call g id_ip6_big u57.2 [t59_63, (LV.int .i64 1)]).bind fun t60_64 =>
 (pr.bin .add t55_59 t60_64).bind fun t61_65 =>
 (pr.fieldAddr 1 1 t9_56.1).bind fun t62_66 =>
 (pr.load 1 false u57.2 t62_66).bind fun t63_67 =>
 (pr.bin .add t61_65 t63_67).bind fun t64_68 =>
 (pr.bin .add t64_68 (getL q48.1 0)).bind fun t66_70 =>
 (pr.fieldAddr 0 0 t9_56.1).bind fun t67_72 =>
 (pr.load 1 false u57.2 t67_72).bind fun t68_73 =>
 (pr.bin .sub (getL q48.1 2) (LV.int .i64 1)).bind fun t48_76 =>
 pr.round noSlots .normal [t66_70, t68_73, t48_76] u57.2) (
 pr.round noSlots (.exit 0) [(getL q48.1 0), (getL q48.1 1), (getL q48.1 2)] q48.2)) ([t40_40, (LV.int .i64 44), t44_46], noSlots)).bind fun r48 =>
 exIf r48.1 (.exit 0) (
 (pr.fieldAddr 0 0 t1_0).bind fun t69_78 =>
 (pr.load 1 false r48.2.2 t69_78).bind fun t70_79 =>
 (pr.bin .shl t70_79 (LV.int .u64 20)).bind fun t71_80 =>
 (pr.bin .or (LV.int .i64 1610612736) t71_80).bind fun t72_81 =>
 (pr.fieldAddr 1 1 t1_0).bind fun t73_82 =>
 (pr.load 1 false r48.2.2 t73_82).bind fun t74_83 =>
 (pr.bin .or t72_81 t74_83).bind fun t75_84 =>
 (pr.call g id_ip6_big r48.2.2 [t75_84, (LV.int .i64 4)]).bind fun t76_85 =>
 (pr.len true (getL r48.2.1 0)).bind fun t78_87 =>
 (pr.call g id_ip6_big r48.2.2 [t78_87, (LV.int .i64 2)]).bind fun t79_88 =>
 (pr.bin .add t76_85 t79_88).bind fun t80_89 =>
 (pr.call g id_ip6_big r48.2.2 [(getL r48.2.1 1), (LV.int .i64 1)]).bind fun t82_91 =>
 (pr.bin .add t80_89 t82_91).bind fun t83_92 =>
 (pr.fieldAddr 2 2 t1_0).bind fun t84_93 =>
 (pr.load 1 false r48.2.2 t84_93).bind fun t85_94 =>
 (pr.call g id_ip6_big r48.2.2 [t85_94, (LV.int .i64 1)]).bind fun t86_95 =>
 (pr.bin .add t83_92 t86_95).bind fun t87_96 =>
 (pr.fieldAddr 3 3 t1_0).bind fun t88_97 =>
 (pr.slcArr 16 r48.2.2 t88_97 none none).bind fun t89_98 =>
 (pr.b2s r48.2.2 t89_98).bind fun t90_99 =>
 (pr.bin .add t87_96 t90_99).bind fun t91_100 =>
 (pr.fieldAddr 4 19 t1_0).bind fun t92_101 =>
 (pr.slcArr 16 r48.2.2 t92_101 none none).bind fun t93_102 =>
 (pr.b2s r48.2.2 t93_102).bind fun t94_103 =>
 (pr.bin .add t91_100 t94_103).bind fun t95_104 =>
 (pr.bin .add t95_104 (getL r48.2.1 0)).bind fun t97_106 =>
 pr.fin none r48.2.2 [t97_106, LV.nili]) (none)) (
 (pr.call g id_ip6_big noSlots [t17_13, (LV.int .i64 1)]).bind fun t29_110 =>
 (pr.bin .add t29_110 (LV.str [0])).bind fun t30_111 =>
 (pr.call g id_ip6_big noSlots [t23_21, (LV.int .i64 2)]).bind fun t32_113 =>
 (pr.bin .add t30_111 t32_113).bind fun t33_114 =>
 (pr.fieldAddr 7 37 t1_0).bind fun t34_115 =>
 (pr.load 1 false noSlots t34_115).bind fun t35_116 =>
 (pr.conv .i64 t35_116).bind fun t36_117 =>
 (pr.call g id_ip6_big noSlots [t36_117, (LV.int .i64 4)]).bind fun t37_118 =>
 (pr.bin .add t33_114 t37_118).bind fun t38_119 =>
 (pr.bin .add t38_119 t19_15).bind fun t40_121 =>
 (pr.fieldAddr 5 35 t1_0).bind fun t41_124 =>
 (pr.load 1 false noSlots t41_124).bind fun t42_125 =>
 (pr.len false t42_125).bind fun t43_126 =>
 (pr.bin .sub t43_126 (LV.int .i64 1)).bind fun t44_127 =>
 (whileW (fun q129 : List LV × Slots =>
 (pr.bin .geq (getL q129.1 2) (LV.int .i64 0)).bind fun t46_131 =>
 condK t46_131 (
 (pr.fieldAddr 5 35 t1_0).bind fun t49_132 =>
 (pr.load 1 false q129.2 t49_132).bind fun t50_133 =>
 (pr.idxAddr none 2 t50_133 (getL q129.1 2)).bind fun t52_135 =>
 (pr.load 2 true q129.2 t52_135).bind fun t53_136 =>
 (pr.alloc (LV.agg [(LV.int .i64 0), (LV.str [])]) 9 q129.2).bind fun t9_137 =>
 (pr.store 2 true t9_137.2 t9_137.1 t53_136).bind fun u138 =>
 (pr.call g id_ip6_big u138.2 [(getL q129.1 1), (LV.int .i64 1)]).bind fun t55_140 =>
 (pr.fieldAddr 1 1 t9_137.1).bind fun t56_141 =>
 (pr.load 1 false u138.2 t56_141).bind fun t57_142 =>
 (pr.len true t57_142).bind fun t58_143 =>
 (pr.bin .quo t58_143 (LV.int .i64 8)).bind fun t59_144 =>
 (pr.call g id_ip6_big u138.2 [t59_144, (LV.int .i64 1)]).bind fun t60_145 =>
 (pr.bin .add t55_140 t60_145).bind fun t61_146 =>
 (pr.fieldAddr 1 1 t9_137.1).bind fun t62_147 =>
 (pr.load 1 false u138.2 t62_147).bind fun t63_148 =>
 (pr.bin .add t61_146 t63_148).bind fun t64_149 =>
 (pr.bin .add t64_149 (getL q129.1 0)).bind fun t66_151 =>
 (pr.fieldAddr 0 0 t9_137.1).bind fun t67_153 =>
 (pr.load 1 false u138.2 t67_153).bind fun t68_154 =>
 (pr.bin .sub (getL q129.1 2) (LV.int .i64 1)).bind fun t48_157 =>
 pr.round noSlots .normal [t66_151, t68_154, t48_157] u138.2) (
 pr.round noSlots (.exit 0) [(getL q129.1 0), (getL q129.1 1), (getL q129.1 2)] q129.2)) ([t40_121, (LV.int .i64 44), t44_127], noSlots)).bind fun r129 =>
 exIf r129.1 (.exit 0) (
 (pr.fieldAddr 0 0 t1_0).bind fun t69_159 =>
 (pr.load 1 false r129.2.2 t69_159).bind fun t70_160 =>
 (pr.bin .shl t70_160 (LV.int .u64 20)).bind fun t71_161 =>
 (pr.bin .or (LV.int .i64 1610612736) t71_161).bind fun t72_162 =>
 (pr.fieldAddr 1 1 t1_0).bind fun t73_163 =>
 (pr.load 1 false r129.2.2 t73_163).bind fun t74_164 =>
 (pr.bin .or t72_162 t74_164).bind fun t75_165 =>
 (pr.call g id_ip6_big r129.2.2 [t75_165, (LV.int .i64 4)]).bind fun t76_166 =>
 (pr.len true (getL r129.2.1 0)).bind fun t78_168 =>
 (pr.call g id_ip6_big r129.2.2 [t78_168, (LV.int .i64 2)]).bind fun t79_169 =>
 (pr.bin .add t76_166 t79_169).bind fun t80_170 =>
 (pr.call g id_ip6_big r129.2.2 [(getL r129.2.1 1), (LV.int .i64 1)]).bind fun t82_172 =>
 (pr.bin .add t80_170 t82_172).bind fun t83_173 =>
 (pr.fieldAddr 2 2 t1_0).bind fun t84_174 =>
 (pr.load 1 false r129.2.2 t84_174).bind fun t85_175 =>
 (pr.call g id_ip6_big r129.2.2 [t85_175, (LV.int .i64 1)]).bind fun t86_176 =>
 (pr.bin .add t83_173 t86_176).bind fun t87_177 =>
 (pr.fieldAddr 3 3 t1_0).bind fun t88_178 =>
 (pr.slcArr 16 r129.2.2 t88_178 none none).bind fun t89_179 =>
 (pr.b2s r129.2.2 t89_179).bind fun t90_180 =>
 (pr.bin .add t87_177 t90_180).bind fun t91_181 =>
 (pr.fieldAddr 4 19 t1_0).bind fun t92_182 =>
 (pr.slcArr 16 r129.2.2 t92_182 none none).bind fun t93_183 =>
 (pr.b2s r129.2.2 t93_183).bind fun t94_184 =>
 (pr.bin .add t91_181 t94_184).bind fun t95_185 =>
 (pr.bin .add t95_185 (getL r129.2.1 0)).bind fun t97_187 =>
 pr.fin none r129.2.2 [t97_187, LV.nili]) (none))) (
 (pr.fieldAddr 5 35 t1_0).bind fun t41_190 =>
 (pr.load 1 false noSlots t41_190).bind fun t42_191 =>
 (pr.len false t42_191).bind fun t43_192 =>
 (pr.bin .sub t43_192 (LV.int .i64 1)).bind fun t44_193 =>
 (whileW (fun q195 : List LV × Slots =>
 (pr.bin .geq (getL q195.1 2) (LV.int .i64 0)).bind fun t46_197 =>
 condK t46_197 (
 (pr.fieldAddr 5 35 t1_0).bind fun t49_198 =>
 (pr.load 1 false q195.2 t49_198).bind fun t50_199 =>
 (pr.idxAddr none 2 t50_199 (getL q195.1 2)).bind fun t52_201 =>
 (pr.load 2 true q195.2 t52_201).bind fun t53_202 =>
 (pr.alloc (LV.agg [(LV.int .i64 0), (LV.str [])]) 9 q195.2).bind fun t9_203 =>
 (pr.store 2 true t9_203.2 t9_203.1 t53_202).bind fun u204 =>
 (pr.call g id_ip6_big u204.2 [(getL q195.1 1), (LV.int .i64 1)]).bind fun t55_206 =>
 (pr.fieldAddr 1 1 t9_203.1).bind fun t56_207 =>
 (pr.load 1 false u204.2 t56_207).bind fun t57_208 =>
 (pr.len true t57_208).bind fun t58_209 =>
 (pr.bin .quo t58_209 (LV.int .i64 8)).bind fun t59_210 =>
 (pr.call g id_ip6_big u204.2 [t59_210, (LV.int .i64 1)]).bind fun t60_211 =>
 (pr.bin .add t55_206 t60_211).bind fun t61_212 =>
 (pr.fieldAddr 1 1 t9_203.1).bind fun t62_213 =>
 (pr.load 1 false u204.2 t62_213).bind fun t63_214 =>
 (pr.bin .add t61_212 t63_214).bind fun t64_215 =>
 (pr.bin .add t64_215 (getL q195.1 0)).bind fun t66_217 =>
 (pr.fieldAddr 0 0 t9_203.1).bind fun t67_219 =>
 (pr.load 1 false u204.2 t67_219).bind fun t68_220 =>
 (pr.bin .sub (getL q195.1 2) (LV.int .i64 1)).bind fun t48_223 =>
 pr.round noSlots .normal [t66_217, t68_220, t48_223] u204.2) (
 pr.round noSlots (.exit 0) [(getL q195.1 0), (getL q195.1 1), (getL q195.1 2)] q195.2)) ([t19_15, t17_13, t44_193], noSlots)).bind fun r195 =>
 exIf r195.1 (.exit 0) (
 (pr.fieldAddr 0 0 t1_0).bind fun t69_225 =>
 (pr.load 1 false r195.2.2 t69_225).bind fun t70_226 =>
 (pr.bin .shl t70_226 (LV.int .u64 20)).bind fun t71_227 =>
 (pr.bin .or (LV.int .i64 1610612736) t71_227).bind fun t72_228 =>
 (pr.fieldAddr 1 1 t1_0).bind fun t73_229 =>
 (pr.load 1 false r195.2.2 t73_229).bind fun t74_230 =>
 (pr.bin .or t72_228 t74_230).bind fun t75_231 =>
 (pr.call g id_ip6_big r195.2.2 [t75_231, (LV.int .i64 4)]).bind fun t76_232 =>
 (pr.len true (getL r195.2.1 0)).bind fun t78_234 =>
 (pr.call g id_ip6_big r195.2.2 [t78_234, (LV.int .i64 2)]).bind fun t79_235 =>
 (pr.bin .add t76_232 t79_235).bind fun t80_236 =>
 (pr.call g id_ip6_big r195.2.2 [(getL r195.2.1 1), (LV.int .i64 1)]).bind fun t82_238 =>
 (pr.bin .add t80_236 t82_238).bind fun t83_239 =>
 (pr.fieldAddr 2 2 t1_0).bind fun t84_240 =>
 (pr.load 1 false r195.2.2 t84_240).bind fun t85_241 =>
 (pr.call g id_ip6_big r195.2.2 [t85_241, (LV.int .i64 1)]).bind fun t86_242 =>
 (pr.bin .add t83_239 t86_242).bind fun t87_243 =>
 (pr.fieldAddr 3 3 t1_0).bind fun t88_244 =>
 (pr.slcArr 16 r195.2.2 t88_244 none none).bind fun t89_245 =>
 (pr.b2s r195.2.2 t89_245).bind fun t90_246 =>
 (pr.bin .add t87_243 t90_246).bind fun t91_247 =>
 (pr.fieldAddr 4 19 t1_0).bind fun t92_248 =>
 (pr.slcArr 16 r195.2.2 t92_248 none none).bind fun t93_249 =>
 (pr.b2s r195.2.2 t93_249).bind fun t94_250 =>
 (pr.bin .add t91_247 t94_250).bind fun t95_251 =>
 (pr.bin .add t95_251 (getL r195.2.1 0)).bind fun t97_253 =>
 pr.fin none r195.2.2 [t97_253, LV.nili]) (none)))
theorem F_ip6_Bytes_eq (g : Call) (a0 : LV) : fnEv g c_ip6_Bytes [a0] none = F_ip6_Bytes g a0 := by kernel_rfl

/-- interpreter/interpreterlaw04.zeros -/
noncomputable def F_interpreterlaw04_zeros (g : Call) (a0 : LV) : Option (LV × Option LV) :=
 (pr.call g id_strings_Repeat noSlots [(LV.str [0]), a0]).bind fun t4_2 =>
 pr.fin none noSlots [t4_2]
theorem F_interpreterlaw04_zeros_eq (g : Call) (a0 : LV) : fnEv g c_interpreterlaw04_zeros [a0] none = F_interpreterlaw04_zeros g a0 := by kernel_rfl

/-- interpreter/ip6.Routed -/
noncomputable def F_ip6_Routed (g : Call) (a0 : LV) : Option (LV × Option LV) :=
 (pr.len false a0).bind fun t6_2 =>
 (whileW (fun q4 : List LV × Slots =>
 (pr.bin .lss (getL q4.1 1) t6_2).bind fun t8_5 =>
 condK t8_5 (
 (pr.idxAddr none 2 a0 (getL q4.1 1)).bind fun t9_6 =>
 (pr.load 2 true q4.2 t9_6).bind fun t10_7 =>
 (pr.alloc (LV.agg [(LV.int .i64 0), (LV.str [])]) 4 q4.2).bind fun t4_8 =>
 (pr.store 2 true t4_8.2 t4_8.1 t10_7).bind fun u9 =>
 (pr.fieldAddr 0 0 t4_8.1).bind fun t11_10 =>
 (pr.load 1 false u9.2 t11_10).bind fun t12_11 =>
 (pr.bin .eql t12_11 (LV.int .i64 43)).bind fun t13_12 =>
 (pr.guard t13_12 true).bind fun b14 =>
 (if b14 = true then pr.fieldAddr 1 1 t4_8.1 else some LV.undef).bind fun t15_14 =>
 (pr.guard t13_12 true).bind fun b15 =>
 (if b15 = true then pr.load 1 false u9.2 t15_14 else some LV.undef).bind fun t16_15 =>
 (pr.guard t13_12 true).bind fun b16 =>
 (if b16 = true then pr.len true t16_15 else some LV.undef).bind fun t17_16 =>
 (pr.guard t13_12 true).bind fun b17 =>
 (if b17 = true then pr.bin .gtr t17_16 (LV.int .i64 1) else some LV.undef).bind fun t18_17 =>
 (pr.pick t13_12 t18_17 (LV.bool false)).bind fun t19_18 =>
 (pr.guard t19_18 true).bind fun b20 =>
 (if b20 = true then pr.fieldAddr 1 1 t4_8.1 else some LV.undef).bind fun t21_20 =>
 (pr.guard t19_18 true).bind fun b21 =>
 (if b21 = true then pr.load 1 false u9.2 t21_20 else some LV.undef).bind fun t22_21 =>
 (pr.guard t19_18 true).bind fun b22 =>
 (if b22 = true then pr.idxStr t22_21 (LV.int .i64 1) else some LV.undef).bind fun t23_22 =>
 (pr.guard t19_18 true).bind fun b23 =>
 (if b23 = true then pr.bin .neq t23_22 (LV.int .u8 0) else some LV.undef).bind fun t24_23 =>
 (pr.pick t19_18 t24_23 (LV.bool false)).bind fun t25_24 =>
 condK t25_24 (
 pr.round noSlots .ret [(LV.bool true), (getL q4.1 1)] u9.2) (
 (pr.bin .add (getL q4.1 1) (LV.int .i64 1)).bind fun t26_26 =>
 pr.round noSlots .normal [(getL q4.1 0), t26_26] u9.2)) (
 pr.round noSlots (.exit 0) [(getL q4.1 0), (getL q4.1 1)] q4.2)) ([(LV.bool false), (LV.int .i64 0)], noSlots)).bind fun r4 =>
 exIf r4.1 (.exit 0) (
 pr.fin none r4.2.2 [(LV.bool false)]) (exIf r4.1 .ret (
 pr.fin none r4.2.2 [(getL r4.2.1 0)]) (none))
theorem F_ip6_Routed_eq (g : Call) (a0 : LV) : fnEv g c_ip6_Routed [a0] none = F_ip6_Routed g a0 := by kernel_rfl

/-- interpreter/interpreterref04.Bytes -/
noncomputable def F_interpreterref04_Bytes (g : Call) (a0 : LV) : Option (LV × Option LV) :=
 (pr.box a0).bind fun t1_0 =>
 (pr.load 42 true noSlots t1_0).bind fun t13_3 =>
 (pr.call g id_interpreterref04_Why noSlots [t13_3]).bind fun t14_4 =>
 (pr.bin .neq t14_4 (LV.int .i64 0)).bind fun t16_7 =>
 condK t16_7 (
 pr.fin none noSlots [(LV.str []), t14_4]) (
 (pr.nilT 1 5 noSlots).bind fun t5_11 =>
 (whileW (fun q13 : List LV × Slots =>
 (pr.fieldAddr 5 35 t1_0).bind fun t19_15 =>
 (pr.load 1 false q13.2 t19_15).bind fun t20_16 =>
 (pr.len false t20_16).bind fun t21_17 =>
 (pr.bin .lss (getL q13.1 1) t21_17).bind fun t22_18 =>
 condK t22_18 (
 (pr.fieldAddr 5 35 t1_0).bind fun t26_20 =>
 (pr.load 1 false q13.2 t26_20).bind fun t27_21 =>
 (pr.idxAddr none 2 t27_21 (getL q13.1 1)).bind fun t29_23 =>
 (pr.fieldAddr 0 0 t29_23).bind fun t30_24 =>
 (pr.load 1 false q13.2 t30_24).bind fun t31_25 =>
 (pr.bsl (LV.int .i64 0) 1 [(0, t31_25)]).bind fun t32_26 =>
 (pr.append 1 8 33 q13.2 (getL q13.1 0) t32_26).bind fun t33_27 =>
 (pr.bin .add (getL q13.1 1) (LV.int .i64 1)).bind fun t24_30 =>
 pr.round t5_11.2 .normal [t33_27.1, t24_30] t33_27.2) (
 pr.round t5_11.2 (.exit 0) [(getL q13.1 0), (getL q13.1 1)] q13.2)) ([t5_11.1, (LV.int .i64 0)], t5_11.2)).bind fun r13 =>
 exIf r13.1 (.exit 0) (
 (pr.fieldAddr 6 36 t1_0).bind fun t34_32 =>
 (pr.load 1 false r13.2.2 t34_32).bind fun t35_33 =>
 condK t35_33 (
 (pr.bsl (LV.int .i64 0) 1 [(0, (LV.int .i64 44))]).bind fun t37_35 =>
 (pr.append 1 8 38 r13.2.2 (getL r13.2.1 0) t37_35).bind fun t38_36 =>
 (pr.fieldAddr 10 40 t1_0).bind fun t40_39 =>
 (pr.load 1 false t38_36.2 t40_39).bind fun t41_40 =>
 (pr.bsl (LV.int .i64 0) 1 [(0, t41_40)]).bind fun t42_41 =>
 (pr.append 1 8 43 t38_36.2 t38_36.1 t42_41).bind fun t43_42 =>
 (whileW (fun q46 : List LV × Slots =>
 (pr.fieldAddr 5 35 t1_0).bind fun t45_48 =>
 (pr.load 1 false q46.2 t45_48).bind fun t46_49 =>
 (pr.len false t46_49).bind fun t47_50 =>
 (pr.bin .lss (getL q46.1 1) t47_50).bind fun t48_51 =>
 condK t48_51 (
 (pr.bin .add (getL q46.1 1) (LV.int .i64 1)).bind fun t54_55 =>
 (pr.idxAddr none 1 t43_42.1 t54_55).bind fun t55_56 =>
 (pr.load 1 false q46.2 t55_56).bind fun t56_57 =>
 (pr.call g id_interpreterref04_put q46.2 [t56_57, (LV.int .i64 1)]).bind fun t57_58 =>
 (pr.bin .add (getL q46.1 0) t57_58).bind fun t58_59 =>
 (pr.fieldAddr 5 35 t1_0).bind fun t59_60 =>
 (pr.load 1 false q46.2 t59_60).bind fun t60_61 =>
 (pr.idxAddr none 2 t60_61 (getL q46.1 1)).bind fun t62_63 =>
 (pr.fieldAddr 1 1 t62_63).bind fun t63_64 =>
 (pr.load 1 false q46.2 t63_64).bind fun t64_65 =>
 (pr.len true t64_65).bind fun t65_66 =>
 (pr.bin .add t65_66 (LV.int .i64 2)).bind fun t66_67 =>
 (pr.bin .quo t66_67 (LV.int .i64 8)).bind fun t67_68 =>
 (pr.bin .sub t67_68 (LV.int .i64 1)).bind fun t68_69 =>
 (pr.call g id_interpreterref04_put q46.2 [t68_69, (LV.int .i64 1)]).bind fun t69_70 =>
 (pr.bin .add t58_59 t69_70).bind fun t70_71 =>
 (pr.fieldAddr 5 35 t1_0).bind fun t71_72 =>
 (pr.load 1 false q46.2 t71_72).bind fun t72_73 =>
 (pr.idxAddr none 2 t72_73 (getL q46.1 1)).bind fun t74_75 =>
 (pr.fieldAddr 1 1 t74_75).bind fun t75_76 =>
 (pr.load 1 false q46.2 t75_76).bind fun t76_77 =>
 (pr.bin .add t70_71 t76_77).bind fun t77_78 =>
 (pr.bin .add (getL q46.1 1) (LV.int .i64 1)).bind fun t50_81 =>
 pr.round t43_42.2 .normal [t77_78, t50_81] q46.2) (
 pr.round t43_42.2 (.exit 2) [(getL q46.1 0), (getL q46.1 1)] q46.2)) ([(LV.str []), (LV.int .i64 0)], t43_42.2)).bind fun r46 =>
 exIf r46.1 (.exit 2) (
 (pr.fieldAddr 6 36 t1_0).bind fun t78_83 =>
 (pr.load 1 false r46.2.2 t78_83).bind fun t79_84 =>
 condK t79_84 (
 (pr.fieldAddr 8 38 t1_0).bind fun t80_85 =>
 (pr.load 1 false r46.2.2 t80_85).bind fun t81_86 =>
 (pr.fieldAddr 9 39 t1_0).bind fun t82_88 =>
 (pr.load 1 false r46.2.2 t82_88).bind fun t83_89 =>
 condK t83_89 (
 (pr.bin .add t81_86 (LV.int .i64 1)).bind fun t85_91 =>
 (pr.fieldAddr 10 40 t1_0).bind fun t87_94 =>
 (pr.load 1 false r46.2.2 t87_94).bind fun t88_95 =>
 (pr.call g id_interpreterref04_put r46.2.2 [t88_95, (LV.int .i64 1)]).bind fun t89_96 =>
 (pr.bin .add (getL r46.2.1 0) t89_96).bind fun t90_97 =>
 (pr.call g id_interpreterref04_put r46.2.2 [(LV.int .i64 0), (LV.int .i64 1)]).bind fun t91_98 =>
 (pr.bin .add t90_97 t91_98).bind fun t92_99 =>
 (pr.call g id_interpreterref04_put r46.2.2 [t85_91, (LV.int .i64 2)]).bind fun t94_101 =>
 (pr.bin .add t92_99 t94_101).bind fun t95_102 =>
 (pr.fieldAddr 7 37 t1_0).bind fun t96_103 =>
 (pr.load 1 false r46.2.2 t96_103).bind fun t97_104 =>
 (pr.conv .i64 t97_104).bind fun t98_105 =>
 (pr.call g id_interpreterref04_put r46.2.2 [t98_105, (LV.int .i64 4)]).bind fun t99_106 =>
 (pr.bin .add t95_102 t99_106).bind fun t100_107 =>
 (pr.fieldAddr 11 41 t1_0).bind fun t102_110 =>
 (pr.load 1 false r46.2.2 t102_110).bind fun t103_111 =>
 (pr.bin .add t100_107 t103_111).bind fun t104_112 =>
 (pr.fieldAddr 0 0 t1_0).bind fun t105_114 =>
 (pr.load 1 false r46.2.2 t105_114).bind fun t106_115 =>
 (pr.bin .mul t106_115 (LV.int .i64 1048576)).bind fun t107_116 =>
 (pr.bin .add (LV.int .i64 1610612736) t107_116).bind fun t108_117 =>
 (pr.fieldAddr 1 1 t1_0).bind fun t109_118 =>
 (pr.load 1 false r46.2.2 t109_118).bind fun t110_119 =>
 (pr.bin .add t108_117 t110_119).bind fun t111_120 =>
 (pr.call g id_interpreterref04_put r46.2.2 [t111_120, (LV.int .i64 4)]).bind fun t112_121 =>
 (pr.len true t104_112).bind fun t114_123 =>
 (pr.call g id_interpreterref04_put r46.2.2 [t114_123, (LV.int .i64 2)]).bind fun t115_124 =>
 (pr.bin .add t112_121 t115_124).bind fun t116_125 =>
 (pr.idxAddr none 1 t43_42.1 (LV.int .i64 0)).bind fun t118_127 =>
 (pr.load 1 false r46.2.2 t118_127).bind fun t119_128 =>
 (pr.call g id_interpreterref04_put r46.2.2 [t119_128, (LV.int .i64 1)]).bind fun t120_129 =>
 (pr.bin .add t116_125 t120_129).bind fun t121_130 =>
 (pr.fieldAddr 2 2 t1_0).bind fun t122_131 =>
 (pr.load 1 false r46.2.2 t122_131).bind fun t123_132 =>
 (pr.call g id_interpreterref04_put r46.2.2 [t123_132, (LV.int .i64 1)]).bind fun t124_133 =>
 (pr.bin .add t121_130 t124_133).bind fun t125_134 =>
 (whileW (fun q137 : List LV × Slots =>
 (pr.bin .lss (getL q137.1 1) (LV.int .i64 16)).bind fun t127_139 =>
 condK t127_139 (
 (pr.fieldAddr 3 3 t1_0).bind fun t132_142 =>
 (pr.idxAddr (some 16) 1 t132_142 (getL q137.1 1)).bind fun t133_143 =>
 (pr.load 1 false q137.2 t133_143).bind fun t134_144 =>
 (pr.bsl (LV.int .u8 0) 1 [(0, t134_144)]).bind fun t135_145 =>
 (pr.b2s q137.2 t135_145).bind fun t136_146 =>
 (pr.bin .add (getL q137.1 0) t136_146).bind fun t137_147 =>
 (pr.bin .add (getL q137.1 1) (LV.int .i64 1)).bind fun t129_150 =>
 pr.round r46.2.2 .normal [t137_147, t129_150] q137.2) (
 pr.round r46.2.2 (.exit 4) [(getL q137.1 0), (getL q137.1 1)] q137.2)) ([t125_134, (LV.int .i64 0)], r46.2.2)).bind fun r137 =>
 exIf r137.1 (.exit 4) (
 (whileW (fun q153 : List LV × Slots =>
 (pr.bin .lss (getL q153.1 1) (LV.int .i64 16)).bind fun t139_155 =>
 condK t139_155 (
 (pr.fieldAddr 4 19 t1_0).bind fun t144_158 =>
 (pr.idxAddr (some 16) 1 t144_158 (getL q153.1 1)).bind fun t145_159 =>
 (pr.load 1 false q153.2 t145_159).bind fun t146_160 =>
 (pr.bsl (LV.int .u8 0) 1 [(0, t146_160)]).bind fun t147_161 =>
 (pr.b2s q153.2 t147_161).bind fun t148_162 =>
 (pr.bin .add (getL q153.1 0) t148_162).bind fun t149_163 =>
 (pr.bin .add (getL q153.1 1) (LV.int .i64 1)).bind fun t141_166 =>
 pr.round r137.2.2 .normal [t149_163, t141_166] q153.2) (
 pr.round r137.2.2 (.exit 6) [(getL q153.1 0), (getL q153.1 1)] q153.2)) ([(getL r137.2.1 0), (LV.int .i64 0)], r137.2.2)).bind fun r153 =>
 exIf r153.1 (.exit 6) (
 (pr.bin .add (getL r153.2.1 0) t104_112).bind fun t152_170 =>
 pr.fin none r153.2.2 [t152_170, (LV.int .i64 0)]) (none)) (none)) (
 (pr.fieldAddr 10 40 t1_0).bind fun t87_174 =>
 (pr.load 1 false r46.2.2 t87_174).bind fun t88_175 =>
 (pr.call g id_interpreterref04_put r46.2.2 [t88_175, (LV.int .i64 1)]).bind fun t89_176 =>
 (pr.bin .add (getL r46.2.1 0) t89_176).bind fun t90_177 =>
 (pr.call g id_interpreterref04_put r46.2.2 [(LV.int .i64 0), (LV.int .i64 1)]).bind fun t91_178 =>
 (pr.bin .add t90_177 t91_178).bind fun t92_179 =>
 (pr.call g id_interpreterref04_put r46.2.2 [t81_86, (LV.int .i64 2)]).bind fun t94_181 =>
 (pr.bin .add t92_179 t94_181).bind fun t95_182 =>
 (pr.fieldAddr 7 37 t1_0).bind fun t96_183 =>
 (pr.load 1 false r46.2.2 t96_183).bind fun t97_184 =>
 (pr.conv .i64 t97_184).bind fun t98_185 =>
 (pr.call g id_interpreterref04_put r46.2.2 [t98_185, (LV.int .i64 4)]).bind fun t99_186 =>
 (pr.bin .add t95_182 t99_186).bind fun t100_187 =>
 (pr.fieldAddr 11 41 t1_0).bind fun t102_190 =>
 (pr.load 1 false r46.2.2 t102_190).bind fun t103_191 =>
 (pr.bin .add t100_187 t103_191).bind fun t104_192 =>
 (pr.fieldAddr 0 0 t1_0).bind fun t105_194 =>
 (pr.load 1 false r46.2.2 t105_194).bind fun t106_195 =>
 (pr.bin .mul t106_195 (LV.int .i64 1048576)).bind fun t107_196 =>
 (pr.bin .add (LV.int .i64 1610612736) t107_196).bind fun t108_197 =>
 (pr.fieldAddr 1 1 t1_0).bind fun t109_198 =>
 (pr.load 1 false r46.2.2 t109_198).bind fun t110_199 =>
 (pr.bin .add t108_197 t110_199).bind fun t111_200 =>
 (pr.call g id_interpreterref04_put r46.2.2 [t111_200, (LV.int .i64 4)]).bind fun t112_201 =>
 (pr.len true t104_192).bind fun t114_203 =>
 (pr.call g id_interpreterref04_put r46.2.2 [t114_203, (LV.int .i64 2)]).bind fun t115_204 =>
 (pr.bin .add t112_201 t115_204).bind fun t116_205 =>
 (pr.idxAddr none 1 t43_42.1 (LV.int .i64 0)).bind fun t118_207 =>
 (pr.load 1 false r46.2.2 t118_207).bind fun t119_208 =>
 (pr.call g id_interpreterref04_put r46.2.2 [t119_208, (LV.int .i64 1)]).bind fun t120_209 =>
 (pr.bin .add t116_205 t120_209).bind fun t121_210 =>
 (pr.fieldAddr 2 2 t1_0).bind fun t122_211 =>
 (pr.load 1 false r46.2.2 t122_211).bind fun t123_212 =>
 (pr.call g id_interpreterref04_put r46.2.2 [t123_212, (LV.int .i64 1)]).bind fun t124_213 =>
 (pr.bin .add t121_210 t124_213).bind fun t125_214 =>
 (whileW (fun q217 : List LV × Slots =>
 (pr.bin .lss (getL q217.1 1) (LV.int .i64 16)).bind fun t127_219 =>
 condK t127_219 (
 (pr.fieldAddr 3 3 t1_0).bind fun t132_222 =>
 (pr.idxAddr (some 16) 1 t132_222 (getL q217.1 1)).bind fun t133_223 =>
 (pr.load 1 false q217.2 t133_223).bind fun t134_224 =>
 (pr.bsl (LV.int .u8 0) 1 [(0, t134_224)]).bind fun t135_225 =>
 (pr.b2s q217.2 t135_225).bind fun t136_226 =>
 (pr.bin .add (getL q217.1 0) t136_226).bind fun t137_227 =>
 (pr.bin .add (getL q217.1 1) (LV.int .i64 1)).bind fun t129_230 =>
 pr.round r46.2.2 .normal [t137_227, t129_230] q217.2) (
 pr.round r46.2.2 (.exit 4) [(getL q217.1 0), (getL q217.1 1)] q217.2)) ([t125_214, (LV.int .i64 0)], r46.2.2)).bind fun r217 =>
 exIf r217.1 (.exit 4) (
 (whileW (fun q233 : List LV × Slots =>
 (pr.bin .lss (getL q233.1 1) (LV.int .i64 16)).bind fun t139_235 =>
 condK t139_235 (
 (pr.fieldAddr 4 19 t1_0).bind fun t144_238 =>
 (pr.idxAddr (some 16) 1 t144_238 (getL q233.1 1)).bind fun t145_239 =>
 (pr.load 1 false q233.2 t145_239).bind fun t146_240 =>
 (pr.bsl (LV.int .u8 0) 1 [(0, t146_240)]).bind fun t147_241 =>
 (pr.b2s q233.2 t147_241).bind fun t148_242 =>
 (pr.bin .add (getL q233.1 0) t148_242).bind fun t149_243 =>
 (pr.bin .add (getL q233.1 1) (LV.int .i64 1)).bind fun t141_246 =>
 pr.round r217.2.2 .normal [t149_243, t141_246] q233.2) (
 pr.round r217.2.2 (.exit 6) [(getL q233.1 0), (getL q233.1 1)] q233.2)) ([(getL r217.2.1 0), (LV.int .i64 0)], r217.2.2)).bind fun r233 =>
 exIf r233.1 (.exit 6) (
 (pr.bin .add (getL r233.2.1 0) t104_192).bind fun t152_250 =>
 pr.fin none r233.2.2 [t152_250, (LV.int .i64 0)]) (none)) (none))) (
 (pr.fieldAddr 11 41 t1_0).bind fun t102_254 =>
 (pr.load 1 false r46.2.2 t102_254).bind fun t103_255 =>
 (pr.bin .add (getL r46.2.1 0) t103_255).bind fun t104_256 =>
 (pr.fieldAddr 0 0 t1_0).bind fun t105_258 =>
 (pr.load 1 false r46.2.2 t105_258).bind fun t106_259 =>
 (pr.bin .mul t106_259 (LV.int .i64 1048576)).bind fun t107_260 =>
 (pr.bin .add (LV.int .i64 1610612736) t107_260).bind fun t108_261 =>
 (pr.fieldAddr 1 1 t1_0).bind fun t109_262 =>
 (pr.load 1 false r46.2.2 t109_262).bind fun t110_263 =>
 (pr.bin .add t108_261 t110_263).bind fun t111_264 =>
 (pr.call g id_interpreterref04_put r46.2.2 [t111_264, (LV.int .i64 4)]).bind fun t112_265 =>
 (pr.len true t104_256).bind fun t114_267 =>
 (pr.call g id_interpreterref04_put r46.2.2 [t114_267, (LV.int .i64 2)]).bind fun t115_268 =>
 (pr.bin .add t112_265 t115_268).bind fun t116_269 =>
 (pr.idxAddr none 1 t43_42.1 (LV.int .i64 0)).bind fun t118_271 =>
 (pr.load 1 false r46.2.2 t118_271).bind fun t119_272 =>
 (pr.call g id_interpreterref04_put r46.2.2 [t119_272, (LV.int .i64 1)]).bind fun t120_273 =>
 (pr.bin .add t116_269 t120_273).bind fun t121_274 =>
 (pr.fieldAddr 2 2 t1_0).bind fun t122_275 =>
 (pr.load 1 false r46.2.2 t122_275).bind fun t123_276 =>
 (pr.call g id_interpreterref04_put r46.2.2 [t123_276, (LV.int .i64 1)]).bind fun t124_277 =>
 (pr.bin .add t121_274 t124_277).bind fun t125_278 =>
 (whileW (fun q281 : List LV × Slots =>
 (pr.bin .lss (getL q281.1 1) (LV.int .i64 16)).bind fun t127_283 =>
 condK t127_283 (
 (pr.fieldAddr 3 3 t1_0).bind fun t132_286 =>
 (pr.idxAddr (some 16) 1 t132_286 (getL q281.1 1)).bind fun t133_287 =>
 (pr.load 1 false q281.2 t133_287).bind fun t134_288 =>
 (pr.bsl (LV.int .u8 0) 1 [(0, t134_288)]).bind fun t135_289 =>
 (pr.b2s q281.2 t135_289).bind fun t136_290 =>
 (pr.bin .add (getL q281.1 0) t136_290).bind fun t137_291 =>
 (pr.bin .add (getL q281.1 1) (LV.int .i64 1)).bind fun t129_294 =>
 pr.round r46.2.2 .normal [t137_291, t129_294] q281.2) (
 pr.round r46.2.2 (.exit 4) [(getL q281.1 0), (getL q281.1 1)] q281.2)) ([t125_278, (LV.int .i64 0)], r46.2.2)).bind fun r281 =>
 exIf r281.1 (.exit 4) (
 (whileW (fun q297 : List LV × Slots =>
 (pr.bin .lss (getL q297.1 1) (LV.int .i64 16)).bind fun t139_299 =>
 condK t139_299 (
 (pr.fieldAddr 4 19 t1_0).bind fun t144_302 =>
 (pr.idxAddr (some 16) 1 t144_302 (getL q297.1 1)).bind fun t145_303 =>
 (pr.load 1 false q297.2 t145_303).bind fun t146_304 =>
 (pr.bsl (LV.int .u8 0) 1 [(0, t146_304)]).bind fun t147_305 =>
 (pr.b2s q297.2 t147_305).bind fun t148_306 =>
 (pr.bin .add (getL q297.1 0) t148_306).bind fun t149_307 =>
 (pr.bin .add (getL q297.1 1) (LV.int .i64 1)).bind fun t141_310 =>
 pr.round r281.2.2 .normal [t149_307, t141_310] q297.2) (
 pr.round r281.2.2 (.exit 6) [(getL q297.1 0), (getL q297.1 1)] q297.2)) ([(getL r281.2.1 0), (LV.int .i64 0)], r281.2.2)).bind fun r297 =>
 exIf r297.1 (.exit 6) (
 (pr.bin .add (getL r297.2.1 0) t104_256).bind fun t152_314 =>
 pr.fin none r297.2.2 [t152_314, (LV.int .i64 0)]) (none)) (none))) (none)) (
 (pr.fieldAddr 10 40 t1_0).bind fun t40_318 =>
 (pr.load 1 false r13.2.2 t40_318).bind fun t41_319 =>
 (pr.bsl (LV.int .i64 0) 1 [(0, t41_319)]).bind fun t42_320 =>
 (pr.append 1 8 43 r13.2.2 (getL r13.2.1 0) t42_320).bind fun t43_321 =>
 (whileW (fun q325 : List LV × Slots =>
 (pr.fieldAddr 5 35 t1_0).bind fun t45_327 =>
 (pr.load 1 false q325.2 t45_327).bind fun t46_328 =>
 (pr.len false t46_328).bind fun t47_329 =>
 (pr.bin .lss (getL q325.1 1) t47_329).bind fun t48_330 =>
 condK t48_330 (
 (pr.bin .add (getL q325.1 1) (LV.int .i64 1)).bind fun t54_334 =>
 (pr.idxAddr none 1 t43_321.1 t54_334).bind fun t55_335 =>
 (pr.load 1 false q325.2 t55_335).bind fun t56_336 =>
 (pr.call g id_interpreterref04_put q325.2 [t56_336, (LV.int .i64 1)]).bind fun t57_337 =>
 (pr.bin .add (getL q325.1 0) t57_337).bind fun t58_338 =>
 (pr.fieldAddr 5 35 t1_0).bind fun t59_339 =>
 (pr.load 1 false q325.2 t59_339).bind fun t60_340 =>
 (pr.idxAddr none 2 t60_340 (getL q325.1 1)).bind fun t62_342 =>
 (pr.fieldAddr 1 1 t62_342).bind fun t63_343 =>
 (pr.load 1 false q325.2 t63_343).bind fun t64_344 =>
 (pr.len true t64_344).bind fun t65_345 =>
 (pr.bin .add t65_345 (LV.int .i64 2)).bind fun t66_346 =>
 (pr.bin .quo t66_346 (LV.int .i64 8)).bind fun t67_347 =>
 (pr.bin .sub t67_347 (LV.int .i64 1)).bind fun t68_348 =>
 (pr.call g id_interpreterref04_put q325.2 [t68_348, (LV.int .i64 1)]).bind fun t69_349 =>
 (pr.bin .add t58_338 t69_349).bind fun t70_350 =>
 (pr.fieldAddr 5 35 t1_0).bind fun t71_351 =>
 (pr.load 1 false q325.2 t71_351).bind fun t72_352 =>
 (pr.idxAddr none 2 t72_352 (getL q325.1 1)).bind fun t74_354 =>
 (pr.fieldAddr 1 1 t74_354).bind fun t75_355 =>
 (pr.load 1 false q325.2 t75_355).bind fun t76_356 =>
 (pr.bin .add t70_350 t76_356).bind fun t77_357 =>
 (pr.bin .add (getL q325.1 1) (LV.int .i64 1)).bind fun t50_360 =>
 pr.round t43_321.2 .normal [t77_357, t50_360] q325.2) (
 pr.round t43_321.2 (.exit 2) [(getL q325.1 0), (getL q325.1 1)] q325.2)) ([(LV.str []), (LV.int .i64 0)], t43_321.2)).bind fun r325 =>
 exIf r325.1 (.exit 2) (
 (pr.fieldAddr 6 36 t1_0).bind fun t78_362 =>
 (pr.load 1 false r325.2.2 t78_362).bind fun t79_363 =>
 condK t79_363 (
 (pr.fieldAddr 8 38 t1_0).bind fun t80_364 =>
 (pr.load 1 false r325.2.2 t80_364).bind fun t81_365 =>
 (pr.fieldAddr 9 39 t1_0).bind fun t82_367 =>
 (pr.load 1 false r325.2.2 t82_367).bind fun t83_368 =>
 condK t83_368 (
 (pr.bin .add t81_365 (LV.int .i64 1)).bind fun t85_370 =>
 (pr.fieldAddr 10 40 t1_0).bind fun t87_373 =>
 (pr.load 1 false r325.2.2 t87_373).bind fun t88_374 =>
 (pr.call g id_interpreterref04_put r325.2.2 [t88_374, (LV.int .i64 1)]).bind fun t89_375 =>
 (pr.bin .add (getL r325.2.1 0) t89_375).bind fun t90_376 =>
 (pr.call g id_interpreterref04_put r325.2.2 [(LV.int .i64 0), (LV.int .i64 1)]).bind fun t91_377 =>
 (pr.bin .add t90_376 t91_377).bind fun t92_378 =>
 (pr.call g id_interpreterref04_put r325.2.2 [t85_370, (LV.int .i64 2)]).bind fun t94_380 =>
 (pr.bin .add t92_378 t94_380).bind fun t95_381 =>
 (pr.fieldAddr 7 37 t1_0).bind fun t96_382 =>
 (pr.load 1 false r325.2.2 t96_382).bind fun t97_383 =>
 (pr.conv .i64 t97_383).bind fun t98_384 =>
 (pr.call g id_interpreterref04_put r325.2.2 [t98_384, (LV.int .i64 4)]).bind fun t99_385 =>
 (pr.bin .add t95_381 t99_385).bind fun t100_386 =>
 (pr.fieldAddr 11 41 t1_0).bind fun t102_389 =>
 (pr.load 1 false r325.2.2 t102_389).bind fun t103_390 =>
 (pr.bin .add t100_386 t103_390).bind fun t104_391 =>
 (pr.fieldAddr 0 0 t1_0).bind fun t105_393 =>
 (pr.load 1 false r325.2.2 t105_393).bind fun t106_394 =>
 (pr.bin .mul t106_394 (LV.int .i64 1048576)).bind fun t107_395 =>
 (pr.bin .add (LV.int .i64 1610612736) t107_395).bind fun t108_396 =>
 (pr.fieldAddr 1 1 t1_0).bind fun t109_397 =>
 (pr.load 1 false r325.2.2 t109_397).bind fun t110_398 =>
 (pr.bin .add t108_396 t110_398).bind fun t111_399 =>
 (pr.call g id_interpreterref04_put r325.2.2 [t111_399, (LV.int .i64 4)]).bind fun t112_400 =>
 (pr.len true t104_391).bind fun t114_402 =>
 (pr.call g id_interpreterref04_put r325.2.2 [t114_402, (LV.int .i64 2)]).bind fun t115_403 =>
 (pr.bin .add t112_400 t115_403).bind fun t116_404 =>
 (pr.idxAddr none 1 t43_321.1 (LV.int .i64 0)).bind fun t118_406 =>
 (pr.load 1 false r325.2.2 t118_406).bind fun t119_407 =>
 (pr.call g id_interpreterref04_put r325.2.2 [t119_407, (LV.int .i64 1)]).bind fun t120_408 =>
 (pr.bin .add t116_404 t120_408).bind fun t121_409 =>
 (pr.fieldAddr 2 2 t1_0).bind fun t122_410 =>
 (pr.load 1 false r325.2.2 t122_410).bind fun t123_411 =>
 (pr.call g id_interpreterref04_put r325.2.2 [t123_411, (LV.int .i64 1)]).bind fun t124_412 =>
 (pr.bin .add t121_409 t124_412).bind fun t125_413 =>
 (whileW (fun q416 : List LV × Slots =>
 (pr.bin .lss (getL q416.1 1) (LV.int .i64 16)).bind fun t127_418 =>
 condK t127_418 (
 (pr.fieldAddr 3 3 t1_0).bind fun t132_421 =>
 (pr.idxAddr (some 16) 1 t132_421 (getL q416.1 1)).bind fun t133_422 =>
 (pr.load 1 false q416.2 t133_422).bind fun t134_423 =>
 (pr.bsl (LV.int .u8 0) 1 [(0, t134_423)]).bind fun t135_424 =>
 (pr.b2s q416.2 t135_424).bind fun t136_425 =>
 (pr.bin .add (getL q416.1 0) t136_425).bind fun t137_426 =>
 (pr.bin .add (getL q416.1 1) (LV.int .i64 1)).bind fun t129_429 =>
 pr.round r325.2.2 .normal [t137_426, t129_429] q416.2) (
 pr.round r325.2.2 (.exit 4) [(getL q416.1 0), (getL q416.1 1)] q416.2)) ([t125_413, (LV.int .i64 0)], r325.2.2)).bind fun r416 =>
 exIf r416.1 (.exit 4) (
 (whileW (fun q432 : List LV × Slots =>
 (pr.bin .lss (getL q432.1 1) (LV.int .i64 16)).bind fun t139_434 =>
 condK t139_434 (
 (pr.fieldAddr 4 19 t1_0).bind fun t144_437 =>
 (pr.idxAddr (some 16) 1 t144_437 (getL q432.1 1)).bind fun t145_438 =>
 (pr.load 1 false q432.2 t145_438).bind fun t146_439 =>
 (pr.bsl (LV.int .u8 0) 1 [(0, t146_439)]).bind fun t147_440 =>
 (pr.b2s q432.2 t147_440).bind fun t148_441 =>
 (pr.bin .add (getL q432.1 0) t148_441).bind fun t149_442 =>
 (pr.bin .add (getL q432.1 1) (LV.int .i64 1)).bind fun t141_445 =>
 pr.round r416.2.2 .normal [t149_442, t141_445] q432.2) (
 pr.round r416.2.2 (.exit 6) [(getL q432.1 0), (getL q432.1 1)] q432.2)) ([(getL r416.2.1 0), (LV.int .i64 0)], r416.2.2)).bind fun r432 =>
 exIf r432.1 (.exit 6) (
 (pr.bin .add (getL r432.2.1 0) t104_391).bind fun t152_449 =>
 pr.fin none r432.2.2 [t152_449, (LV.int .i64 0)]) (none)) (none)) (
 (pr.fieldAddr 10 40 t1_0).bind fun t87_453 =>
 (pr.load 1 false r325.2.2 t87_453).bind fun t88_454 =>
 (pr.call g id_interpreterref04_put r325.2.2 [t88_454, (LV.int .i64 1)]).bind fun t89_455 =>
 (pr.bin .add (getL r325.2.1 0) t89_455).bind fun t90_456 =>
 (pr.call g id_interpreterref04_put r325.2.2 [(LV.int .i64 0), (LV.int .i64 1)]).bind fun t91_457 =>
 (pr.bin .add t90_456 t91_457).bind fun t92_458 =>
 (pr.call g id_interpreterref04_put r325.2.2 [t81_365, (LV.int .i64 2)]).bind fun t94_460 =>
 (pr.bin .add t92_458 t94_460).bind fun t95_461 =>
 (pr.fieldAddr 7 37 t1_0).bind fun t96_462 =>
 (pr.load 1 false r325.2.2 t96_462).bind fun t97_463 =>
 (pr.conv .i64 t97_463).bind fun t98_464 =>
 (pr.call g id_interpreterref04_put r325.2.2 [t98_464, (LV.int .i64 4)]).bind fun t99_465 =>
 (pr.bin .add t95_461 t99_465).bind fun t100_466 =>
 (pr.fieldAddr 11 41 t1_0).bind fun t102_469 =>
 (pr.load 1 false r325.2.2 t102_469).bind fun t103_470 =>
 (pr.bin .add t100_466 t103_470).bind fun t104_471 =>
 (pr.fieldAddr 0 0 t1_0).bind fun t105_473 =>
 (pr.load 1 false r325.2.2 t105_473).bind fun t106_474 =>
 (pr.bin .mul t106_474 (LV.int .i64 1048576)).bind fun t107_475 =>
 (pr.bin .add (LV.int .i64 1610612736) t107_475).bind fun t108_476 =>
 (pr.fieldAddr 1 1 t1_0).bind fun t109_477 =>
 (pr.load 1 false r325.2.2 t109_477).bind fun t110_478 =>
 (pr.bin .add t108_476 t110_478).bind fun t111_479 =>
 (pr.call g id_interpreterref04_put r325.2.2 [t111_479, (LV.int .i64 4)]).bind fun t112_480 =>
 (pr.len true t104_471).bind fun t114_482 =>
 (pr.call g id_interpreterref04_put r325.2.2 [t114_482, (LV.int .i64 2)]).bind fun t115_483 =>
 (pr.bin .add t112_480 t115_483).bind fun t116_484 =>
 (pr.idxAddr none 1 t43_321.1 (LV.int .i64 0)).bind fun t118_486 =>
 (pr.load 1 false r325.2.2 t118_486).bind fun t119_487 =>
 (pr.call g id_interpreterref04_put r325.2.2 [t119_487, (LV.int .i64 1)]).bind fun t120_488 =>
 (pr.bin .add t116_484 t120_488).bind fun t121_489 =>
 (pr.fieldAddr 2 2 t1_0).bind fun t122_490 =>
 (pr.load 1 false r325.2.2 t122_490).bind fun t123_491 =>
 (pr.call g id_interpreterref04_put r325.2.2 [t123_491, (LV.int .i64 1)]).bind fun t124_492 =>
 (pr.bin .add t121_489 t124_492).bind fun t125_493 =>
 (whileW (fun q496 : List LV × Slots =>
 (pr.bin .lss (getL q496.1 1) (LV.int .i64 16)).bind fun t127_498 =>
 condK t127_498 (
 (pr.fieldAddr 3 3 t1_0).bind fun t132_501 =>
 (pr.idxAddr (some 16) 1 t132_501 (getL q496.1 1)).bind fun t133_502 =>
 (pr.load 1 false q496.2 t133_502).bind fun t134_503 =>
 (pr.bsl (LV.int .u8 0) 1 [(0, t134_503)]).bind fun t135_504 =>
 (pr.b2s q496.2 t135_504).bind fun t136_505 =>
 (pr.bin .add (getL q496.1 0) t136_505).bind fun t137_506 =>
 (pr.bin .add (getL q496.1 1) (LV.int .i64 1)).bind fun t129_509 =>
 pr.round r325.2.2 .normal [t137_506, t129_509] q496.2) (
 pr.round r325.2.2 (.exit 4) [(getL q496.1 0), (getL q496.1 1)] q496.2)) ([t125_493, (LV.int .i64 0)], r325.2.2)).bind fun r496 =>
 exIf r496.1 (.exit 4) (
 (whileW (fun q512 : List LV × Slots =>
 (pr.bin .lss (getL q512.1 1) (LV.int .i64 16)).bind fun t139_514 =>
 condK t139_514 (
 (pr.fieldAddr 4 19 t1_0).bind fun t144_517 =>
 (pr.idxAddr (some 16) 1 t144_517 (getL q512.1 1)).bind fun t145_518 =>
 (pr.load 1 false q512.2 t145_518).bind fun t146_519 =>
 (pr.bsl (LV.int .u8 0) 1 [(0, t146_519)]).bind fun t147_520 =>
 (pr.b2s q512.2 t147_520).bind fun t148_521 =>
 (pr.bin .add (getL q512.1 0) t148_521).bind fun t149_522 =>
 (pr.bin .add (getL q512.1 1) (LV.int .i64 1)).bind fun t141_525 =>
 pr.round r496.2.2 .normal [t149_522, t141_525] q512.2) (
 pr.round r496.2.2 (.exit 6) [(getL q512.1 0), (getL q512.1 1)] q512.2)) ([(getL r496.2.1 0), (LV.int .i64 0)], r496.2.2)).bind fun r512 =>
 exIf r512.1 (.exit 6) (
 (pr.bin .add (getL r512.2.1 0) t104_471).bind fun t152_529 =>
 pr.fin none r512.2.2 [t152_529, (LV.int .i64 0)]) (none)) (none))) (
 (pr.fieldAddr 11 41 t1_0).bind fun t102_533 =>
 (pr.load 1 false r325.2.2 t102_533).bind fun t103_534 =>
 (pr.bin .add (getL r325.2.1 0) t103_534).bind fun t104_535 =>
 (pr.fieldAddr 0 0 t1_0).bind fun t105_537 =>
 (pr.load 1 false r325.2.2 t105_537).bind fun t106_538 =>
 (pr.bin .mul t106_538 (LV.int .i64 1048576)).bind fun t107_539 =>
 (pr.bin .add (LV.int .i64 1610612736) t107_539).bind fun t108_540 =>
 (pr.fieldAddr 1 1 t1_0).bind fun t109_541 =>
 (pr.load 1 false r325.2.2 t109_541).bind fun t110_542 =>
 (pr.bin .add t108_540 t110_542).bind fun t111_543 =>
 (pr.call g id_interpreterref04_put r325.2.2 [t111_543, (LV.int .i64 4)]).bind fun t112_544 =>
 (pr.len true t104_535).bind fun t114_546 =>
 (pr.call g id_interpreterref04_put r325.2.2 [t114_546, (LV.int .i64 2)]).bind fun t115_547 =>
 (pr.bin .add t112_544 t115_547).bind fun t116_548 =>
 (pr.idxAddr none 1 t43_321.1 (LV.int .i64 0)).bind fun t118_550 =>
 (pr.load 1 false r325.2.2 t118_550).bind fun t119_551 =>
 (pr.call g id_interpreterref04_put r325.2.2 [t119_551, (LV.int .i64 1)]).bind fun t120_552 =>
 (pr.bin .add t116_548 t120_552).bind fun t121_553 =>
 (pr.fieldAddr 2 2 t1_0).bind fun t122_554 =>
 (pr.load 1 false r325.2.2 t122_554).bind fun t123_555 =>
 (pr.call g id_interpreterref04_put r325.2.2 [t123_555, (LV.int .i64 1)]).bind fun t124_556 =>
 (pr.bin .add t121_553 t124_556).bind fun t125_557 =>
 (whileW (fun q560 : List LV × Slots =>
 (pr.bin .lss (getL q560.1 1) (LV.int .i64 16)).bind fun t127_562 =>
 condK t127_562 (
 (pr.fieldAddr 3 3 t1_0).bind fun t132_565 =>
 (pr.idxAddr (some 16) 1 t132_565 (getL q560.1 1)).bind fun t133_566 =>
 (pr.load 1 false q560.2 t133_566).bind fun t134_567 =>
 (pr.bsl (LV.int .u8 0) 1 [(0, t134_567)]).bind fun t135_568 =>
 (pr.b2s q560.2 t135_568).bind fun t136_569 =>
 (pr.bin .add (getL q560.1 0) t136_569).bind fun t137_570 =>
 (pr.bin .add (getL q560.1 1) (LV.int .i64 1)).bind fun t129_573 =>
 pr.round r325.2.2 .normal [t137_570, t129_573] q560.2) (
 pr.round r325.2.2 (.exit 4) [(getL q560.1 0), (getL q560.1 1)] q560.2)) ([t125_557, (LV.int .i64 0)], r325.2.2)).bind fun r560 =>
 exIf r560.1 (.exit 4) (
 (whileW (fun q576 : List LV × Slots =>
 (pr.bin .lss (getL q576.1 1) (LV.int .i64 16)).bind fun t139_578 =>
 condK t139_578 (
 (pr.fieldAddr 4 19 t1_0).bind fun t144_581 =>
 (pr.idxAddr (some 16) 1 t144_581 (getL q576.1 1)).bind fun t145_582 =>
 (pr.load 1 false q576.2 t145_582).bind fun t146_583 =>
 (pr.bsl (LV.int .u8 0) 1 [(0, t146_583)]).bind fun t147_584 =>
 (pr.b2s q576.2 t147_584).bind fun t148_585 =>
 (pr.bin .add (getL q576.1 0) t148_585).bind fun t149_586 =>
 (pr.bin .add (getL q576.1 1) (LV.int .i64 1)).bind fun t141_589 =>
 pr.round r560.2.2 .normal [t149_586, t141_589] q576.2) (
 pr.round r560.2.2 (.exit 6) [(getL q576.1 0), (getL q576.1 1)] q576.2)) ([(getL r560.2.1 0), (LV.int .i64 0)], r560.2.2)).bind fun r576 =>
 exIf r576.1 (.exit 6) (
 (pr.bin .add (getL r576.2.1 0) t104_535).bind fun t152_593 =>
 pr.fin none r576.2.2 [t152_593, (LV.int .i64 0)]) (none)) (none))) (none))) (none))
theorem F_interpreterref04_Bytes_eq (g : Call) (a0 : LV) : fnEv g c_interpreterref04_Bytes [a0] none = F_interpreterref04_Bytes g a0 := by kernel_rfl

/-- interpreter/interpreterref04.Routed -/
noncomputable def F_interpreterref04_Routed (g : Call) (a0 : LV) : Option (LV × Option LV) :=
 (whileW (fun q2 : List LV × Slots =>
 (pr.len false a0).bind fun t6_5 =>
 (pr.bin .lss (getL q2.1 1) t6_5).bind fun t7_6 =>
 condK t7_6 (
 (pr.idxAddr none 2 a0 (getL q2.1 1)).bind fun t12_9 =>
 (pr.fieldAddr 0 0 t12_9).bind fun t13_10 =>
 (pr.load 1 false q2.2 t13_10).bind fun t14_11 =>
 (pr.bin .eql t14_11 (LV.int .i64 43)).bind fun t15_12 =>
 (pr.guard t15_12 true).bind fun b14 =>
 (if b14 = true then some a0 else some LV.undef).bind fun t17_14 =>
 (pr.guard t15_12 true).bind fun b15 =>
 (if b15 = true then some (getL q2.1 1) else some LV.undef).bind fun t18_15 =>
 (pr.guard t15_12 true).bind fun b16 =>
 (if b16 = true then pr.idxAddr none 2 t17_14 t18_15 else some LV.undef).bind fun t19_16 =>
 (pr.guard t15_12 true).bind fun b17 =>
 (if b17 = true then pr.fieldAddr 1 1 t19_16 else some LV.undef).bind fun t20_17 =>
 (pr.guard t15_12 true).bind fun b18 =>
 (if b18 = true then pr.load 1 false q2.2 t20_17 else some LV.undef).bind fun t21_18 =>
 (pr.guard t15_12 true).bind fun b19 =>
 (if b19 = true then pr.len true t21_18 else some LV.undef).bind fun t22_19 =>
 (pr.guard t15_12 true).bind fun b20 =>
 (if b20 = true then pr.bin .geq t22_19 (LV.int .i64 2) else some LV.undef).bind fun t23_20 =>
 (pr.pick t15_12 t23_20 (LV.bool false)).bind fun t24_21 =>
 (pr.guard t24_21 true).bind fun b23 =>
 (if b23 = true then some a0 else some LV.undef).bind fun t26_23 =>
 (pr.guard t24_21 true).bind fun b24 =>
 (if b24 = true then some (getL q2.1 1) else some LV.undef).bind fun t27_24 =>
 (pr.guard t24_21 true).bind fun b25 =>
 (if b25 = true then pr.idxAddr none 2 t26_23 t27_24 else some LV.undef).bind fun t28_25 =>
 (pr.guard t24_21 true).bind fun b26 =>
 (if b26 = true then pr.fieldAddr 1 1 t28_25 else some LV.undef).bind fun t29_26 =>
 (pr.guard t24_21 true).bind fun b27 =>
 (if b27 = true then pr.load 1 false q2.2 t29_26 else some LV.undef).bind fun t30_27 =>
 (pr.guard t24_21 true).bind fun b28 =>
 (if b28 = true then pr.idxStr t30_27 (LV.int .i64 1) else some LV.undef).bind fun t31_28 =>
 (pr.guard t24_21 true).bind fun b29 =>
 (if b29 = true then pr.bin .neq t31_28 (LV.int .u8 0) else some LV.undef).bind fun t32_29 =>
 (pr.pick t24_21 t32_29 (LV.bool false)).bind fun t33_30 =>
 condK t33_30 (
 pr.round noSlots .ret [(LV.bool true), (getL q2.1 1)] q2.2) (
 (pr.bin .add (getL q2.1 1) (LV.int .i64 1)).bind fun t9_33 =>
 pr.round noSlots .normal [(getL q2.1 0), t9_33] q2.2)) (
 pr.round noSlots (.exit 0) [(getL q2.1 0), (getL q2.1 1)] q2.2)) ([(LV.bool false), (LV.int .i64 0)], noSlots)).bind fun r2 =>
 exIf r2.1 (.exit 0) (
 pr.fin none r2.2.2 [(LV.bool false)]) (exIf r2.1 .ret (
 pr.fin none r2.2.2 [(getL r2.2.1 0)]) (none))
theorem F_interpreterref04_Routed_eq (g : Call) (a0 : LV) : fnEv g c_interpreterref04_Routed [a0] none = F_interpreterref04_Routed g a0 := by kernel_rfl

/-- interpreter/ip6.fault -/
noncomputable def F_ip6_fault (g : Call) (a0 : LV) : Option (LV × Option LV) :=
 (pr.parts (LV.agg [(LV.int .i64 0), (LV.int .i64 0)]) [(0, a0)]).bind fun t4_2 =>
 (pr.box t4_2).bind fun t5_3 =>
 (pr.iface ty_ptr_num_Fault t5_3).bind fun t6_4 =>
 pr.fin none noSlots [t6_4]
theorem F_ip6_fault_eq (g : Call) (a0 : LV) : fnEv g c_ip6_fault [a0] none = F_ip6_fault g a0 := by kernel_rfl

/-- interpreter/num.New -/
noncomputable def F_num_New (g : Call) (a0 : LV) : Option (LV × Option LV) :=
 (pr.parts (LV.agg [(LV.str []), (LV.int .i64 0), LV.nilp]) [(0, a0)]).bind fun t4_2 =>
 (pr.boxM t4_2 5 noSlots).bind fun t5_3 =>
 pr.fin none t5_3.2 [t5_3.1]
theorem F_num_New_eq (g : Call) (a0 : LV) : fnEv g c_num_New [a0] none = F_num_New g a0 := by kernel_rfl

/-- (*interpreter/num.Reader).U32 -/
noncomputable def F_num_Reader_U32 (g : Call) (h : LV) : Option (LV × Option LV) :=
 (pr.callRw g id_num_Reader_number (upd noSlots 0 (.obj 0 h)) [(LV.ptr 0 0 [] 0), (LV.int .i64 4)]).bind fun t5_3 =>
 (pr.extract t5_3.1 0).bind fun t6_4 =>
 (pr.extract t5_3.1 1).bind fun t7_5 =>
 pr.fin (some h) t5_3.2 [t6_4, t7_5]
theorem F_num_Reader_U32_eq (g : Call) (h : LV) : fnEv g c_num_Reader_U32 [(LV.ptr 0 0 [] 0)] (some h) = F_num_Reader_U32 g h := by kernel_rfl

/-- interpreter/ip6.pieced -/
noncomputable def F_ip6_pieced (g : Call) (a0 : LV) : Option (LV × Option LV) :=
 (pr.box a0).bind fun t1_0 =>
 (pr.fieldAddr 9 39 t1_0).bind fun t3_2 =>
 (pr.load 1 false noSlots t3_2).bind fun t4_3 =>
 (pr.un .not t4_3).bind fun t5_4 =>
 (pr.guard t5_4 false).bind fun b6 =>
 (if b6 = true then pr.fieldAddr 11 41 t1_0 else some LV.undef).bind fun t7_6 =>
 (pr.guard t5_4 false).bind fun b7 =>
 (if b7 = true then pr.load 1 false noSlots t7_6 else some LV.undef).bind fun t8_7 =>
 (pr.guard t5_4 false).bind fun b8 =>
 (if b8 = true then pr.bin .neq t8_7 (LV.str []) else some LV.undef).bind fun t9_8 =>
 (pr.guard t5_4 false).bind fun b9 =>
 (if b9 = true then some t9_8 else some LV.undef).bind fun t10_9 =>
 (pr.guard t10_9 true).bind fun b10 =>
 (if b10 = true then pr.fieldAddr 11 41 t1_0 else some LV.undef).bind fun t11_10 =>
 (pr.guard t10_9 true).bind fun b11 =>
 (if b11 = true then pr.load 1 false noSlots t11_10 else some LV.undef).bind fun t12_11 =>
 (pr.guard t10_9 true).bind fun b12 =>
 (if b12 = true then pr.len true t12_11 else some LV.undef).bind fun t13_12 =>
 (pr.guard t10_9 true).bind fun b13 =>
 (if b13 = true then pr.bin .rem t13_12 (LV.int .i64 8) else some LV.undef).bind fun t14_13 =>
 (pr.guard t10_9 true).bind fun b14 =>
 (if b14 = true then pr.bin .eql t14_13 (LV.int .i64 0) else some LV.undef).bind fun t15_14 =>
 (pr.guard t5_4 false).bind fun b15 =>
 (if b15 = true then pr.pick t10_9 t15_14 (LV.bool false) else some LV.undef).bind fun t16_15 =>
 (pr.pick t5_4 (LV.bool true) t16_15).bind fun t17_16 =>
 pr.fin none noSlots [t17_16]
theorem F_ip6_pieced_eq (g : Call) (a0 : LV) : fnEv g c_ip6_pieced [a0] none = F_ip6_pieced g a0 := by kernel_rfl

/-- interpreter/interpreterref04.number -/
noncomputable def F_interpreterref04_number (g : Call) (a0 : LV) (a1 : LV) (a2 : LV) : Option (LV × Option LV) :=
 (pr.parts (LV.agg [(LV.str []), (LV.int .i64 0), (LV.int .i64 0), (LV.int .i64 0)]) [(0, a0), (1, a1)]).bind fun t12_3 =>
 (pr.boxM t12_3 13 noSlots).bind fun t13_4 =>
 (pr.callRw g id_interpreterref01_Reader_Number t13_4.2 [t13_4.1, a2]).bind fun t17_8 =>
 (pr.extract t17_8.1 0).bind fun t18_10 =>
 (pr.extract t17_8.1 1).bind fun t19_11 =>
 pr.fin none t17_8.2 [t18_10]
theorem F_interpreterref04_number_eq (g : Call) (a0 : LV) (a1 : LV) (a2 : LV) : fnEv g c_interpreterref04_number [a0, a1, a2] none = F_interpreterref04_number g a0 a1 a2 := by kernel_rfl

/-- interpreter/ip6.extends -/
noncomputable def F_ip6_extends (g : Call) (a0 : LV) : Option (LV × Option LV) :=
 (pr.bin .eql a0 (LV.int .i64 0)).bind fun t4_2 =>
 (pr.guard t4_2 false).bind fun b4 =>
 (if b4 = true then some a0 else some LV.undef).bind fun t6_4 =>
 (pr.guard t4_2 false).bind fun b5 =>
 (if b5 = true then pr.bin .eql t6_4 (LV.int .i64 43) else some LV.undef).bind fun t7_5 =>
 (pr.pick t4_2 (LV.bool true) t7_5).bind fun t8_6 =>
 (pr.guard t8_6 false).bind fun b8 =>
 (if b8 = true then some a0 else some LV.undef).bind fun t10_8 =>
 (pr.guard t8_6 false).bind fun b9 =>
 (if b9 = true then pr.bin .eql t10_8 (LV.int .i64 60) else some LV.undef).bind fun t11_9 =>
 (pr.pick t8_6 (LV.bool true) t11_9).bind fun t12_10 =>
 pr.fin none noSlots [t12_10]
theorem F_ip6_extends_eq (g : Call) (a0 : LV) : fnEv g c_ip6_extends [a0] none = F_ip6_extends g a0 := by kernel_rfl

/-- interpreter/ip6.why -/
noncomputable def F_ip6_why (g : Call) (a0 : LV) : Option (LV × Option LV) :=
 (pr.box a0).bind fun t1_0 =>
 (pr.fieldAddr 0 0 t1_0).bind fun t4_2 =>
 (pr.load 1 false noSlots t4_2).bind fun t5_3 =>
 (pr.call g id_ip6_within noSlots [t5_3, (LV.int .i64 255)]).bind fun t6_4 =>
 (pr.un .not t6_4).bind fun t7_5 =>
 (pr.guard t7_5 false).bind fun b7 =>
 (if b7 = true then pr.fieldAddr 1 1 t1_0 else some LV.undef).bind fun t9_7 =>
 (pr.guard t7_5 false).bind fun b8 =>
 (if b8 = true then pr.load 1 false noSlots t9_7 else some LV.undef).bind fun t10_8 =>
 (pr.guard t7_5 false).bind fun b9 =>
 (if b9 = true then pr.call g id_ip6_within noSlots [t10_8, (LV.int .i64 1048575)] else some LV.undef).bind fun t11_9 =>
 (pr.guard t7_5 false).bind fun b10 =>
 (if b10 = true then pr.un .not t11_9 else some LV.undef).bind fun t12_10 =>
 (pr.pick t7_5 (LV.bool true) t12_10).bind fun t13_11 =>
 (pr.guard t13_11 false).bind fun b13 =>
 (if b13 = true then pr.fieldAddr 2 2 t1_0 else some LV.undef).bind fun t15_13 =>
 (pr.guard t13_11 false).bind fun b14 =>
 (if b14 = true then pr.load 1 false noSlots t15_13 else some LV.undef).bind fun t16_14 =>
 (pr.guard t13_11 false).bind fun b15 =>
 (if b15 = true then pr.call g id_ip6_within noSlots [t16_14, (LV.int .i64 255)] else some LV.undef).bind fun t17_15 =>
 (pr.guard t13_11 false).bind fun b16 =>
 (if b16 = true then pr.un .not t17_15 else some LV.undef).bind fun t18_16 =>
 (pr.pick t13_11 (LV.bool true) t18_16).bind fun t19_17 =>
 (pr.guard t19_17 false).bind fun b19 =>
 (if b19 = true then pr.fieldAddr 10 40 t1_0 else some LV.undef).bind fun t21_19 =>
 (pr.guard t19_17 false).bind fun b20 =>
 (if b20 = true then pr.load 1 false noSlots t21_19 else some LV.undef).bind fun t22_20 =>
 (pr.guard t19_17 false).bind fun b21 =>
 (if b21 = true then pr.call g id_ip6_within noSlots [t22_20, (LV.int .i64 255)] else some LV.undef).bind fun t23_21 =>
 (pr.guard t19_17 false).bind fun b22 =>
 (if b22 = true then pr.un .not t23_21 else some LV.undef).bind fun t24_22 =>
 (pr.pick t19_17 (LV.bool true) t24_22).bind fun t25_23 =>
 (pr.guard t25_23 false).bind fun b25 =>
 (if b25 = true then pr.fieldAddr 8 38 t1_0 else some LV.undef).bind fun t27_25 =>
 (pr.guard t25_23 false).bind fun b26 =>
 (if b26 = true then pr.load 1 false noSlots t27_25 else some LV.undef).bind fun t28_26 =>
 (pr.guard t25_23 false).bind fun b27 =>
 (if b27 = true then pr.call g id_ip6_within noSlots [t28_26, (LV.int .i64 65528)] else some LV.undef).bind fun t29_27 =>
 (pr.guard t25_23 false).bind fun b28 =>
 (if b28 = true then pr.un .not t29_27 else some LV.undef).bind fun t30_28 =>
 (pr.pick t25_23 (LV.bool true) t30_28).bind fun t31_29 =>
 (pr.guard t31_29 false).bind fun b31 =>
 (if b31 = true then pr.fieldAddr 8 38 t1_0 else some LV.undef).bind fun t33_31 =>
 (pr.guard t31_29 false).bind fun b32 =>
 (if b32 = true then pr.load 1 false noSlots t33_31 else some LV.undef).bind fun t34_32 =>
 (pr.guard t31_29 false).bind fun b33 =>
 (if b33 = true then pr.bin .rem t34_32 (LV.int .i64 8) else some LV.undef).bind fun t35_33 =>
 (pr.guard t31_29 false).bind fun b34 =>
 (if b34 = true then pr.bin .neq t35_33 (LV.int .i64 0) else some LV.undef).bind fun t36_34 =>
 (pr.pick t31_29 (LV.bool true) t36_34).bind fun t37_35 =>
 condK t37_35 (
 pr.fin none noSlots [(LV.int .i64 13)]) (
 (pr.load 42 true noSlots t1_0).bind fun t39_38 =>
 (pr.call g id_ip6_kinds noSlots [t39_38]).bind fun t40_39 =>
 (pr.un .not t40_39).bind fun t41_40 =>
 condK t41_40 (
 pr.fin none noSlots [(LV.int .i64 10)]) (
 (pr.load 42 true noSlots t1_0).bind fun t43_43 =>
 (pr.call g id_ip6_formed noSlots [t43_43]).bind fun t44_44 =>
 (pr.un .not t44_44).bind fun t45_45 =>
 condK t45_45 (
 pr.fin none noSlots [(LV.int .i64 8)]) (
 (pr.fieldAddr 5 35 t1_0).bind fun t47_48 =>
 (pr.load 1 false noSlots t47_48).bind fun t48_49 =>
 (pr.len false t48_49).bind fun t49_50 =>
 (pr.bin .gtr t49_50 (LV.int .i64 8)).bind fun t50_51 =>
 (pr.guard t50_51 false).bind fun b53 =>
 (if b53 = true then pr.fieldAddr 11 41 t1_0 else some LV.undef).bind fun t52_53 =>
 (pr.guard t50_51 false).bind fun b54 =>
 (if b54 = true then pr.load 1 false noSlots t52_53 else some LV.undef).bind fun t53_54 =>
 (pr.guard t50_51 false).bind fun b55 =>
 (if b55 = true then pr.len true t53_54 else some LV.undef).bind fun t54_55 =>
 (pr.guard t50_51 false).bind fun b56 =>
 (if b56 = true then pr.fieldAddr 8 38 t1_0 else some LV.undef).bind fun t55_56 =>
 (pr.guard t50_51 false).bind fun b57 =>
 (if b57 = true then pr.load 1 false noSlots t55_56 else some LV.undef).bind fun t56_57 =>
 (pr.guard t50_51 false).bind fun b58 =>
 (if b58 = true then pr.bin .sub (LV.int .i64 65535) t56_57 else some LV.undef).bind fun t57_58 =>
 (pr.guard t50_51 false).bind fun b59 =>
 (if b59 = true then pr.bin .gtr t54_55 t57_58 else some LV.undef).bind fun t58_59 =>
 (pr.pick t50_51 (LV.bool true) t58_59).bind fun t59_60 =>
 (pr.guard t59_60 false).bind fun b62 =>
 (if b62 = true then pr.load 42 true noSlots t1_0 else some LV.undef).bind fun t61_62 =>
 (pr.guard t59_60 false).bind fun b63 =>
 (if b63 = true then pr.call g id_ip6_size noSlots [t61_62] else some LV.undef).bind fun t62_63 =>
 (pr.guard t59_60 false).bind fun b64 =>
 (if b64 = true then pr.bin .gtr t62_63 (LV.int .i64 65535) else some LV.undef).bind fun t63_64 =>
 (pr.pick t59_60 (LV.bool true) t63_64).bind fun t64_65 =>
 condK t64_65 (
 pr.fin none noSlots [(LV.int .i64 3)]) (
 pr.fin none noSlots [(LV.int .i64 0)]))))
theorem F_ip6_why_eq (g : Call) (a0 : LV) : fnEv g c_ip6_why [a0] none = F_ip6_why g a0 := by kernel_rfl

/-- interpreter/ip6.big -/
noncomputable def F_ip6_big (g : Call) (a0 : LV) (a1 : LV) : Option (LV × Option LV) :=
 (pr.call g id_num_Big noSlots [a0, a1]).bind fun t10_3 =>
 (pr.extract t10_3 0).bind fun t11_5 =>
 (pr.extract t10_3 1).bind fun t12_6 =>
 pr.fin none noSlots [t11_5]
theorem F_ip6_big_eq (g : Call) (a0 : LV) (a1 : LV) : fnEv g c_ip6_big [a0, a1] none = F_ip6_big g a0 a1 := by kernel_rfl

/-- interpreter/interpreterref04.Why -/
noncomputable def F_interpreterref04_Why (g : Call) (a0 : LV) : Option (LV × Option LV) :=
 (pr.box a0).bind fun t1_0 =>
 (pr.fieldAddr 0 0 t1_0).bind fun t8_2 =>
 (pr.load 1 false noSlots t8_2).bind fun t9_3 =>
 (pr.call g id_interpreterref04_bound noSlots [t9_3, (LV.int .i64 255)]).bind fun t10_4 =>
 (pr.un .not t10_4).bind fun t11_5 =>
 (pr.guard t11_5 false).bind fun b7 =>
 (if b7 = true then pr.fieldAddr 1 1 t1_0 else some LV.undef).bind fun t13_7 =>
 (pr.guard t11_5 false).bind fun b8 =>
 (if b8 = true then pr.load 1 false noSlots t13_7 else some LV.undef).bind fun t14_8 =>
 (pr.guard t11_5 false).bind fun b9 =>
 (if b9 = true then pr.call g id_interpreterref04_bound noSlots [t14_8, (LV.int .i64 1048575)] else some LV.undef).bind fun t15_9 =>
 (pr.guard t11_5 false).bind fun b10 =>
 (if b10 = true then pr.un .not t15_9 else some LV.undef).bind fun t16_10 =>
 (pr.pick t11_5 (LV.bool true) t16_10).bind fun t17_11 =>
 (pr.guard t17_11 false).bind fun b13 =>
 (if b13 = true then pr.fieldAddr 2 2 t1_0 else some LV.undef).bind fun t19_13 =>
 (pr.guard t17_11 false).bind fun b14 =>
 (if b14 = true then pr.load 1 false noSlots t19_13 else some LV.undef).bind fun t20_14 =>
 (pr.guard t17_11 false).bind fun b15 =>
 (if b15 = true then pr.call g id_interpreterref04_bound noSlots [t20_14, (LV.int .i64 255)] else some LV.undef).bind fun t21_15 =>
 (pr.guard t17_11 false).bind fun b16 =>
 (if b16 = true then pr.un .not t21_15 else some LV.undef).bind fun t22_16 =>
 (pr.pick t17_11 (LV.bool true) t22_16).bind fun t23_17 =>
 (pr.guard t23_17 false).bind fun b19 =>
 (if b19 = true then pr.fieldAddr 10 40 t1_0 else some LV.undef).bind fun t25_19 =>
 (pr.guard t23_17 false).bind fun b20 =>
 (if b20 = true then pr.load 1 false noSlots t25_19 else some LV.undef).bind fun t26_20 =>
 (pr.guard t23_17 false).bind fun b21 =>
 (if b21 = true then pr.call g id_interpreterref04_bound noSlots [t26_20, (LV.int .i64 255)] else some LV.undef).bind fun t27_21 =>
 (pr.guard t23_17 false).bind fun b22 =>
 (if b22 = true then pr.un .not t27_21 else some LV.undef).bind fun t28_22 =>
 (pr.pick t23_17 (LV.bool true) t28_22).bind fun t29_23 =>
 (pr.guard t29_23 false).bind fun b25 =>
 (if b25 = true then pr.fieldAddr 8 38 t1_0 else some LV.undef).bind fun t31_25 =>
 (pr.guard t29_23 false).bind fun b26 =>
 (if b26 = true then pr.load 1 false noSlots t31_25 else some LV.undef).bind fun t32_26 =>
 (pr.guard t29_23 false).bind fun b27 =>
 (if b27 = true then pr.call g id_interpreterref04_bound noSlots [t32_26, (LV.int .i64 65528)] else some LV.undef).bind fun t33_27 =>
 (pr.guard t29_23 false).bind fun b28 =>
 (if b28 = true then pr.un .not t33_27 else some LV.undef).bind fun t34_28 =>
 (pr.pick t29_23 (LV.bool true) t34_28).bind fun t35_29 =>
 (pr.guard t35_29 false).bind fun b31 =>
 (if b31 = true then pr.fieldAddr 8 38 t1_0 else some LV.undef).bind fun t37_31 =>
 (pr.guard t35_29 false).bind fun b32 =>
 (if b32 = true then pr.load 1 false noSlots t37_31 else some LV.undef).bind fun t38_32 =>
 (pr.guard t35_29 false).bind fun b33 =>
 (if b33 = true then pr.bin .rem t38_32 (LV.int .i64 8) else some LV.undef).bind fun t39_33 =>
 (pr.guard t35_29 false).bind fun b34 =>
 (if b34 = true then pr.bin .neq t39_33 (LV.int .i64 0) else some LV.undef).bind fun t40_34 =>
 (pr.pick t35_29 (LV.bool true) t40_34).bind fun t41_35 =>
 condK t41_35 (
 pr.fin none noSlots [(LV.int .i64 13)]) (
 (pr.fieldAddr 11 41 t1_0).bind fun t42_37 =>
 (pr.load 1 false noSlots t42_37).bind fun t43_38 =>
 (pr.len true t43_38).bind fun t44_39 =>
 (whileW (fun q42 : List LV × Slots =>
 (pr.fieldAddr 5 35 t1_0).bind fun t46_44 =>
 (pr.load 1 false q42.2 t46_44).bind fun t47_45 =>
 (pr.len false t47_45).bind fun t48_46 =>
 (pr.bin .lss (getL q42.1 2) t48_46).bind fun t49_47 =>
 condK t49_47 (
 (pr.fieldAddr 5 35 t1_0).bind fun t52_48 =>
 (pr.load 1 false q42.2 t52_48).bind fun t53_49 =>
 (pr.idxAddr none 2 t53_49 (getL q42.1 2)).bind fun t55_51 =>
 (pr.fieldAddr 0 0 t55_51).bind fun t56_52 =>
 (pr.load 1 false q42.2 t56_52).bind fun t57_53 =>
 (pr.bin .neq t57_53 (LV.int .i64 0)).bind fun t59_56 =>
 (pr.guard t59_56 true).bind fun b58 =>
 (if b58 = true then some t57_53 else some LV.undef).bind fun t61_58 =>
 (pr.guard t59_56 true).bind fun b59 =>
 (if b59 = true then pr.bin .neq t61_58 (LV.int .i64 43) else some LV.undef).bind fun t62_59 =>
 (pr.pick t59_56 t62_59 (LV.bool false)).bind fun t63_60 =>
 (pr.guard t63_60 true).bind fun b62 =>
 (if b62 = true then some t57_53 else some LV.undef).bind fun t65_62 =>
 (pr.guard t63_60 true).bind fun b63 =>
 (if b63 = true then pr.bin .neq t65_62 (LV.int .i64 60) else some LV.undef).bind fun t66_63 =>
 (pr.pick t63_60 t66_63 (LV.bool false)).bind fun t67_64 =>
 condK t67_64 (
 pr.round noSlots .ret [(LV.int .i64 10), (getL q42.1 1), (getL q42.1 2)] q42.2) (
 (pr.bin .add (getL q42.1 1) (LV.int .i64 2)).bind fun t69_67 =>
 (pr.fieldAddr 5 35 t1_0).bind fun t70_68 =>
 (pr.load 1 false q42.2 t70_68).bind fun t71_69 =>
 (pr.idxAddr none 2 t71_69 (getL q42.1 2)).bind fun t73_71 =>
 (pr.fieldAddr 1 1 t73_71).bind fun t74_72 =>
 (pr.load 1 false q42.2 t74_72).bind fun t75_73 =>
 (pr.len true t75_73).bind fun t76_74 =>
 (pr.bin .add t69_67 t76_74).bind fun t77_75 =>
 (pr.bin .add (getL q42.1 2) (LV.int .i64 1)).bind fun t51_78 =>
 pr.round noSlots .normal [(getL q42.1 0), t77_75, t51_78] q42.2)) (
 pr.round noSlots (.exit 0) [(getL q42.1 0), (getL q42.1 1), (getL q42.1 2)] q42.2)) ([(LV.int .i64 0), t44_39, (LV.int .i64 0)], noSlots)).bind fun r42 =>
 exIf r42.1 (.exit 0) (
 (pr.fieldAddr 6 36 t1_0).bind fun t78_80 =>
 (pr.load 1 false r42.2.2 t78_80).bind fun t79_81 =>
 (pr.un .not t79_81).bind fun t80_82 =>
 (pr.guard t80_82 true).bind fun b84 =>
 (if b84 = true then pr.fieldAddr 10 40 t1_0 else some LV.undef).bind fun t82_84 =>
 (pr.guard t80_82 true).bind fun b85 =>
 (if b85 = true then pr.load 1 false r42.2.2 t82_84 else some LV.undef).bind fun t83_85 =>
 (pr.guard t80_82 true).bind fun b86 =>
 (if b86 = true then pr.bin .eql t83_85 (LV.int .i64 0) else some LV.undef).bind fun t84_86 =>
 (pr.guard t80_82 true).bind fun b87 =>
 (if b87 = true then some t84_86 else some LV.undef).bind fun t85_87 =>
 (pr.guard t85_87 false).bind fun b88 =>
 (if b88 = true then pr.fieldAddr 10 40 t1_0 else some LV.undef).bind fun t86_88 =>
 (pr.guard t85_87 false).bind fun b89 =>
 (if b89 = true then pr.load 1 false r42.2.2 t86_88 else some LV.undef).bind fun t87_89 =>
 (pr.guard t85_87 false).bind fun b90 =>
 (if b90 = true then pr.bin .eql t87_89 (LV.int .i64 43) else some LV.undef).bind fun t88_90 =>
 (pr.guard t80_82 true).bind fun b91 =>
 (if b91 = true then pr.pick t85_87 (LV.bool true) t88_90 else some LV.undef).bind fun t89_91 =>
 (pr.guard t80_82 true).bind fun b92 =>
 (if b92 = true then some t89_91 else some LV.undef).bind fun t90_92 =>
 (pr.guard t90_92 false).bind fun b93 =>
 (if b93 = true then pr.fieldAddr 10 40 t1_0 else some LV.undef).bind fun t91_93 =>
 (pr.guard t90_92 false).bind fun b94 =>
 (if b94 = true then pr.load 1 false r42.2.2 t91_93 else some LV.undef).bind fun t92_94 =>
 (pr.guard t90_92 false).bind fun b95 =>
 (if b95 = true then pr.bin .eql t92_94 (LV.int .i64 44) else some LV.undef).bind fun t93_95 =>
 (pr.guard t80_82 true).bind fun b96 =>
 (if b96 = true then pr.pick t90_92 (LV.bool true) t93_95 else some LV.undef).bind fun t94_96 =>
 (pr.guard t80_82 true).bind fun b97 =>
 (if b97 = true then some t94_96 else some LV.undef).bind fun t95_97 =>
 (pr.guard t95_97 false).bind fun b98 =>
 (if b98 = true then pr.fieldAddr 10 40 t1_0 else some LV.undef).bind fun t96_98 =>
 (pr.guard t95_97 false).bind fun b99 =>
 (if b99 = true then pr.load 1 false r42.2.2 t96_98 else some LV.undef).bind fun t97_99 =>
 (pr.guard t95_97 false).bind fun b100 =>
 (if b100 = true then pr.bin .eql t97_99 (LV.int .i64 60) else some LV.undef).bind fun t98_100 =>
 (pr.guard t80_82 true).bind fun b101 =>
 (if b101 = true then pr.pick t95_97 (LV.bool true) t98_100 else some LV.undef).bind fun t99_101 =>
 (pr.pick t80_82 t99_101 (LV.bool false)).bind fun t100_102 =>
 condK t100_102 (
 pr.fin none r42.2.2 [(LV.int .i64 10)]) (
 (whileW (fun q105 : List LV × Slots =>
 (pr.fieldAddr 5 35 t1_0).bind fun t102_107 =>
 (pr.load 1 false q105.2 t102_107).bind fun t103_108 =>
 (pr.len false t103_108).bind fun t104_109 =>
 (pr.bin .lss (getL q105.1 1) t104_109).bind fun t105_110 =>
 condK t105_110 (
 (pr.fieldAddr 5 35 t1_0).bind fun t108_111 =>
 (pr.load 1 false q105.2 t108_111).bind fun t109_112 =>
 (pr.idxAddr none 2 t109_112 (getL q105.1 1)).bind fun t111_114 =>
 (pr.fieldAddr 1 1 t111_114).bind fun t112_115 =>
 (pr.load 1 false q105.2 t112_115).bind fun t113_116 =>
 (pr.len true t113_116).bind fun t114_117 =>
 (pr.bin .add t114_117 (LV.int .i64 2)).bind fun t115_118 =>
 (pr.bin .lss t115_118 (LV.int .i64 8)).bind fun t117_121 =>
 (pr.guard t117_121 false).bind fun b123 =>
 (if b123 = true then some t115_118 else some LV.undef).bind fun t119_123 =>
 (pr.guard t117_121 false).bind fun b124 =>
 (if b124 = true then pr.bin .rem t119_123 (LV.int .i64 8) else some LV.undef).bind fun t120_124 =>
 (pr.guard t117_121 false).bind fun b125 =>
 (if b125 = true then pr.bin .neq t120_124 (LV.int .i64 0) else some LV.undef).bind fun t121_125 =>
 (pr.pick t117_121 (LV.bool true) t121_125).bind fun t122_126 =>
 (pr.guard t122_126 false).bind fun b128 =>
 (if b128 = true then some t115_118 else some LV.undef).bind fun t124_128 =>
 (pr.guard t122_126 false).bind fun b129 =>
 (if b129 = true then pr.bin .gtr t124_128 (LV.int .i64 2048) else some LV.undef).bind fun t125_129 =>
 (pr.pick t122_126 (LV.bool true) t125_129).bind fun t126_130 =>
 (pr.guard t126_130 false).bind fun b132 =>
 (if b132 = true then pr.fieldAddr 5 35 t1_0 else some LV.undef).bind fun t128_132 =>
 (pr.guard t126_130 false).bind fun b133 =>
 (if b133 = true then pr.load 1 false q105.2 t128_132 else some LV.undef).bind fun t129_133 =>
 (pr.guard t126_130 false).bind fun b134 =>
 (if b134 = true then some (getL q105.1 1) else some LV.undef).bind fun t130_134 =>
 (pr.guard t126_130 false).bind fun b135 =>
 (if b135 = true then pr.idxAddr none 2 t129_133 t130_134 else some LV.undef).bind fun t131_135 =>
 (pr.guard t126_130 false).bind fun b136 =>
 (if b136 = true then pr.fieldAddr 0 0 t131_135 else some LV.undef).bind fun t132_136 =>
 (pr.guard t126_130 false).bind fun b137 =>
 (if b137 = true then pr.load 1 false q105.2 t132_136 else some LV.undef).bind fun t133_137 =>
 (pr.guard t126_130 false).bind fun b138 =>
 (if b138 = true then pr.bin .eql t133_137 (LV.int .i64 0) else some LV.undef).bind fun t134_138 =>
 (pr.guard t126_130 false).bind fun b139 =>
 (if b139 = true then some t134_138 else some LV.undef).bind fun t135_139 =>
 (pr.guard t135_139 true).bind fun b140 =>
 (if b140 = true then some (getL q105.1 1) else some LV.undef).bind fun t136_140 =>
 (pr.guard t135_139 true).bind fun b141 =>
 (if b141 = true then pr.bin .gtr t136_140 (LV.int .i64 0) else some LV.undef).bind fun t137_141 =>
 (pr.guard t126_130 false).bind fun b142 =>
 (if b142 = true then pr.pick t135_139 t137_141 (LV.bool false) else some LV.undef).bind fun t138_142 =>
 (pr.pick t126_130 (LV.bool true) t138_142).bind fun t139_143 =>
 condK t139_143 (
 pr.round r42.2.2 .ret [(LV.int .i64 8), (getL q105.1 1)] q105.2) (
 (pr.bin .add (getL q105.1 1) (LV.int .i64 1)).bind fun t107_146 =>
 pr.round r42.2.2 .normal [(getL q105.1 0), t107_146] q105.2)) (
 pr.round r42.2.2 (.exit 2) [(getL q105.1 0), (getL q105.1 1)] q105.2)) ([(getL r42.2.1 0), (LV.int .i64 0)], r42.2.2)).bind fun r105 =>
 exIf r105.1 (.exit 2) (
 (pr.fieldAddr 6 36 t1_0).bind fun t140_148 =>
 (pr.load 1 false r105.2.2 t140_148).bind fun t141_149 =>
 (pr.guard t141_149 true).bind fun b151 =>
 (if b151 = true then pr.fieldAddr 9 39 t1_0 else some LV.undef).bind fun t143_151 =>
 (pr.guard t141_149 true).bind fun b152 =>
 (if b152 = true then pr.load 1 false r105.2.2 t143_151 else some LV.undef).bind fun t144_152 =>
 (pr.pick t141_149 t144_152 (LV.bool false)).bind fun t145_153 =>
 (pr.guard t145_153 true).bind fun b155 =>
 (if b155 = true then pr.fieldAddr 11 41 t1_0 else some LV.undef).bind fun t147_155 =>
 (pr.guard t145_153 true).bind fun b156 =>
 (if b156 = true then pr.load 1 false r105.2.2 t147_155 else some LV.undef).bind fun t148_156 =>
 (pr.guard t145_153 true).bind fun b157 =>
 (if b157 = true then pr.len true t148_156 else some LV.undef).bind fun t149_157 =>
 (pr.guard t145_153 true).bind fun b158 =>
 (if b158 = true then pr.bin .eql t149_157 (LV.int .i64 0) else some LV.undef).bind fun t150_158 =>
 (pr.guard t145_153 true).bind fun b159 =>
 (if b159 = true then some t150_158 else some LV.undef).bind fun t151_159 =>
 (pr.guard t151_159 false).bind fun b160 =>
 (if b160 = true then pr.fieldAddr 11 41 t1_0 else some LV.undef).bind fun t152_160 =>
 (pr.guard t151_159 false).bind fun b161 =>
 (if b161 = true then pr.load 1 false r105.2.2 t152_160 else some LV.undef).bind fun t153_161 =>
 (pr.guard t151_159 false).bind fun b162 =>
 (if b162 = true then pr.len true t153_161 else some LV.undef).bind fun t154_162 =>
 (pr.guard t151_159 false).bind fun b163 =>
 (if b163 = true then pr.bin .rem t154_162 (LV.int .i64 8) else some LV.undef).bind fun t155_163 =>
 (pr.guard t151_159 false).bind fun b164 =>
 (if b164 = true then pr.bin .neq t155_163 (LV.int .i64 0) else some LV.undef).bind fun t156_164 =>
 (pr.guard t145_153 true).bind fun b165 =>
 (if b165 = true then pr.pick t151_159 (LV.bool true) t156_164 else some LV.undef).bind fun t157_165 =>
 (pr.pick t145_153 t157_165 (LV.bool false)).bind fun t158_166 =>
 condK t158_166 (
 pr.fin none r105.2.2 [(LV.int .i64 8)]) (
 (pr.fieldAddr 6 36 t1_0).bind fun t159_168 =>
 (pr.load 1 false r105.2.2 t159_168).bind fun t160_169 =>
 (pr.un .not t160_169).bind fun t161_170 =>
 (pr.guard t161_170 true).bind fun b172 =>
 (if b172 = true then pr.fieldAddr 7 37 t1_0 else some LV.undef).bind fun t163_172 =>
 (pr.guard t161_170 true).bind fun b173 =>
 (if b173 = true then pr.load 1 false r105.2.2 t163_172 else some LV.undef).bind fun t164_173 =>
 (pr.guard t161_170 true).bind fun b174 =>
 (if b174 = true then pr.bin .neq t164_173 (LV.int .u32 0) else some LV.undef).bind fun t165_174 =>
 (pr.guard t161_170 true).bind fun b175 =>
 (if b175 = true then some t165_174 else some LV.undef).bind fun t166_175 =>
 (pr.guard t166_175 false).bind fun b176 =>
 (if b176 = true then pr.fieldAddr 8 38 t1_0 else some LV.undef).bind fun t167_176 =>
 (pr.guard t166_175 false).bind fun b177 =>
 (if b177 = true then pr.load 1 false r105.2.2 t167_176 else some LV.undef).bind fun t168_177 =>
 (pr.guard t166_175 false).bind fun b178 =>
 (if b178 = true then pr.bin .neq t168_177 (LV.int .i64 0) else some LV.undef).bind fun t169_178 =>
 (pr.guard t161_170 true).bind fun b179 =>
 (if b179 = true then pr.pick t166_175 (LV.bool true) t169_178 else some LV.undef).bind fun t170_179 =>
 (pr.guard t161_170 true).bind fun b180 =>
 (if b180 = true then some t170_179 else some LV.undef).bind fun t171_180 =>
 (pr.guard t171_180 false).bind fun b181 =>
 (if b181 = true then pr.fieldAddr 9 39 t1_0 else some LV.undef).bind fun t172_181 =>
 (pr.guard t171_180 false).bind fun b182 =>
 (if b182 = true then pr.load 1 false r105.2.2 t172_181 else some LV.undef).bind fun t173_182 =>
 (pr.guard t161_170 true).bind fun b183 =>
 (if b183 = true then pr.pick t171_180 (LV.bool true) t173_182 else some LV.undef).bind fun t174_183 =>
 (pr.pick t161_170 t174_183 (LV.bool false)).bind fun t175_184 =>
 condK t175_184 (
 pr.fin none r105.2.2 [(LV.int .i64 8)]) (
 (pr.fieldAddr 6 36 t1_0).bind fun t176_186 =>
 (pr.load 1 false r105.2.2 t176_186).bind fun t177_187 =>
 condK t177_187 (
 (pr.bin .add (getL r42.2.1 1) (LV.int .i64 8)).bind fun t179_189 =>
 (pr.fieldAddr 5 35 t1_0).bind fun t180_191 =>
 (pr.load 1 false r105.2.2 t180_191).bind fun t181_192 =>
 (pr.len false t181_192).bind fun t182_193 =>
 (pr.bin .gtr t182_193 (LV.int .i64 8)).bind fun t183_194 =>
 (pr.guard t183_194 false).bind fun b196 =>
 (if b196 = true then pr.fieldAddr 8 38 t1_0 else some LV.undef).bind fun t185_196 =>
 (pr.guard t183_194 false).bind fun b197 =>
 (if b197 = true then pr.load 1 false r105.2.2 t185_196 else some LV.undef).bind fun t186_197 =>
 (pr.guard t183_194 false).bind fun b198 =>
 (if b198 = true then pr.fieldAddr 11 41 t1_0 else some LV.undef).bind fun t187_198 =>
 (pr.guard t183_194 false).bind fun b199 =>
 (if b199 = true then pr.load 1 false r105.2.2 t187_198 else some LV.undef).bind fun t188_199 =>
 (pr.guard t183_194 false).bind fun b200 =>
 (if b200 = true then pr.len true t188_199 else some LV.undef).bind fun t189_200 =>
 (pr.guard t183_194 false).bind fun b201 =>
 (if b201 = true then pr.bin .add t186_197 t189_200 else some LV.undef).bind fun t190_201 =>
 (pr.guard t183_194 false).bind fun b202 =>
 (if b202 = true then pr.bin .gtr t190_201 (LV.int .i64 65535) else some LV.undef).bind fun t191_202 =>
 (pr.pick t183_194 (LV.bool true) t191_202).bind fun t192_203 =>
 (pr.guard t192_203 false).bind fun b205 =>
 (if b205 = true then some t179_189 else some LV.undef).bind fun t194_205 =>
 (pr.guard t192_203 false).bind fun b206 =>
 (if b206 = true then pr.bin .gtr t194_205 (LV.int .i64 65535) else some LV.undef).bind fun t195_206 =>
 (pr.pick t192_203 (LV.bool true) t195_206).bind fun t196_207 =>
 condK t196_207 (
 pr.fin none r105.2.2 [(LV.int .i64 3)]) (
 pr.fin none r105.2.2 [(LV.int .i64 0)])) (
 (pr.fieldAddr 5 35 t1_0).bind fun t180_210 =>
 (pr.load 1 false r105.2.2 t180_210).bind fun t181_211 =>
 (pr.len false t181_211).bind fun t182_212 =>
 (pr.bin .gtr t182_212 (LV.int .i64 8)).bind fun t183_213 =>
 (pr.guard t183_213 false).bind fun b215 =>
 (if b215 = true then pr.fieldAddr 8 38 t1_0 else some LV.undef).bind fun t185_215 =>
 (pr.guard t183_213 false).bind fun b216 =>
 (if b216 = true then pr.load 1 false r105.2.2 t185_215 else some LV.undef).bind fun t186_216 =>
 (pr.guard t183_213 false).bind fun b217 =>
 (if b217 = true then pr.fieldAddr 11 41 t1_0 else some LV.undef).bind fun t187_217 =>
 (pr.guard t183_213 false).bind fun b218 =>
 (if b218 = true then pr.load 1 false r105.2.2 t187_217 else some LV.undef).bind fun t188_218 =>
 (pr.guard t183_213 false).bind fun b219 =>
 (if b219 = true then pr.len true t188_218 else some LV.undef).bind fun t189_219 =>
 (pr.guard t183_213 false).bind fun b220 =>
 (if b220 = true then pr.bin .add t186_216 t189_219 else some LV.undef).bind fun t190_220 =>
 (pr.guard t183_213 false).bind fun b221 =>
 (if b221 = true then pr.bin .gtr t190_220 (LV.int .i64 65535) else some LV.undef).bind fun t191_221 =>
 (pr.pick t183_213 (LV.bool true) t191_221).bind fun t192_222 =>
 (pr.guard t192_222 false).bind fun b224 =>
 (if b224 = true then some (getL r42.2.1 1) else some LV.undef).bind fun t194_224 =>
 (pr.guard t192_222 false).bind fun b225 =>
 (if b225 = true then pr.bin .gtr t194_224 (LV.int .i64 65535) else some LV.undef).bind fun t195_225 =>
 (pr.pick t192_222 (LV.bool true) t195_225).bind fun t196_226 =>
 condK t196_226 (
 pr.fin none r105.2.2 [(LV.int .i64 3)]) (
 pr.fin none r105.2.2 [(LV.int .i64 0)]))))) (exIf r105.1 .ret (
 pr.fin none r105.2.2 [(getL r105.2.1 0)]) (none)))) (exIf r42.1 .ret (
 pr.fin none r42.2.2 [(getL r42.2.1 0)]) (none)))
theorem F_interpreterref04_Why_eq (g : Call) (a0 : LV) : fnEv g c_interpreterref04_Why [a0] none = F_interpreterref04_Why g a0 := by kernel_rfl

/-- interpreter/interpreterref04.put -/
noncomputable def F_interpreterref04_put (g : Call) (a0 : LV) (a1 : LV) : Option (LV × Option LV) :=
 (pr.call g id_interpreterref01_Put noSlots [a0, a1]).bind fun t7_3 =>
 pr.fin none noSlots [t7_3]
theorem F_interpreterref04_put_eq (g : Call) (a0 : LV) (a1 : LV) : fnEv g c_interpreterref04_put [a0, a1] none = F_interpreterref04_put g a0 a1 := by kernel_rfl

/-- (*interpreter/num.Reader).number -/
noncomputable def F_num_Reader_number (g : Call) (h : LV) (a1 : LV) : Option (LV × Option LV) :=
 (pr.callRw g id_num_Reader_Text (upd noSlots 0 (.obj 0 h)) [(LV.ptr 0 0 [] 0), a1]).bind fun t13_4 =>
 (pr.extract t13_4.1 0).bind fun t14_6 =>
 (pr.extract t13_4.1 1).bind fun t15_7 =>
 (pr.len true t14_6).bind fun t17_12 =>
 (whileW (fun q14 : List LV × Slots =>
 (pr.bin .lss (getL q14.1 1) t17_12).bind fun t19_15 =>
 condK t19_15 (
 (pr.bin .shl (getL q14.1 0) (LV.int .u64 8)).bind fun t22_19 =>
 (pr.idxStr t14_6 (getL q14.1 1)).bind fun t25_22 =>
 (pr.conv .i64 t25_22).bind fun t26_23 =>
 (pr.bin .or t22_19 t26_23).bind fun t27_24 =>
 (pr.bin .add (getL q14.1 1) (LV.int .i64 1)).bind fun t28_26 =>
 pr.round t13_4.2 .normal [t27_24, t28_26] q14.2) (
 pr.round t13_4.2 (.exit 0) [(getL q14.1 0), (getL q14.1 1)] q14.2)) ([(LV.int .i64 0), (LV.int .i64 0)], t13_4.2)).bind fun r14 =>
 exIf r14.1 (.exit 0) (
 pr.fin (some h) r14.2.2 [(getL r14.2.1 0), t15_7]) (none)
theorem F_num_Reader_number_eq (g : Call) (h : LV) (a1 : LV) : fnEv g c_num_Reader_number [(LV.ptr 0 0 [] 0), a1] (some h) = F_num_Reader_number g h a1 := by kernel_rfl

/-- (*interpreter/interpreterref01.Reader).Number -/
noncomputable def F_interpreterref01_Reader_Number (g : Call) (h : LV) (a1 : LV) : Option (LV × Option LV) :=
 (pr.callRw g id_interpreterref01_Reader_Text (upd noSlots 0 (.obj 0 h)) [(LV.ptr 0 0 [] 0), a1]).bind fun t13_4 =>
 (pr.extract t13_4.1 0).bind fun t14_6 =>
 (pr.extract t13_4.1 1).bind fun t15_7 =>
 (whileW (fun q12 : List LV × Slots =>
 (pr.len true t14_6).bind fun t18_15 =>
 (pr.bin .lss (getL q12.1 1) t18_15).bind fun t19_16 =>
 condK t19_16 (
 (pr.bin .mul (getL q12.1 0) (LV.int .i64 256)).bind fun t23_18 =>
 (pr.idxStr t14_6 (getL q12.1 1)).bind fun t26_21 =>
 (pr.conv .i64 t26_21).bind fun t27_22 =>
 (pr.bin .add t23_18 t27_22).bind fun t28_23 =>
 (pr.bin .add (getL q12.1 1) (LV.int .i64 1)).bind fun t21_26 =>
 pr.round t13_4.2 .normal [t28_23, t21_26] q12.2) (
 pr.round t13_4.2 (.exit 0) [(getL q12.1 0), (getL q12.1 1)] q12.2)) ([(LV.int .i64 0), (LV.int .i64 0)], t13_4.2)).bind fun r12 =>
 exIf r12.1 (.exit 0) (
 pr.fin (some h) r12.2.2 [(getL r12.2.1 0), t15_7]) (none)
theorem F_interpreterref01_Reader_Number_eq (g : Call) (h : LV) (a1 : LV) : fnEv g c_interpreterref01_Reader_Number [(LV.ptr 0 0 [] 0), a1] (some h) = F_interpreterref01_Reader_Number g h a1 := by kernel_rfl

/-- interpreter/ip6.within -/
noncomputable def F_ip6_within (g : Call) (a0 : LV) (a1 : LV) : Option (LV × Option LV) :=
 (pr.bin .geq a0 (LV.int .i64 0)).bind fun t6_2 =>
 (pr.guard t6_2 true).bind fun b4 =>
 (if b4 = true then some a0 else some LV.undef).bind fun t8_4 =>
 (pr.guard t6_2 true).bind fun b5 =>
 (if b5 = true then some a1 else some LV.undef).bind fun t9_5 =>
 (pr.guard t6_2 true).bind fun b6 =>
 (if b6 = true then pr.bin .leq t8_4 t9_5 else some LV.undef).bind fun t10_6 =>
 (pr.pick t6_2 t10_6 (LV.bool false)).bind fun t11_7 =>
 pr.fin none noSlots [t11_7]
theorem F_ip6_within_eq (g : Call) (a0 : LV) (a1 : LV) : fnEv g c_ip6_within [a0, a1] none = F_ip6_within g a0 a1 := by kernel_rfl

/-- interpreter/ip6.kinds -/
noncomputable def F_ip6_kinds (g : Call) (a0 : LV) : Option (LV × Option LV) :=
 (pr.box a0).bind fun t1_0 =>
 (pr.fieldAddr 5 35 t1_0).bind fun t5_2 =>
 (pr.load 1 false noSlots t5_2).bind fun t6_3 =>
 (pr.len false t6_3).bind fun t7_4 =>
 (whileW (fun q6 : List LV × Slots =>
 (pr.bin .lss (getL q6.1 1) t7_4).bind fun t9_7 =>
 condK t9_7 (
 (pr.idxAddr none 2 t6_3 (getL q6.1 1)).bind fun t10_8 =>
 (pr.load 2 true q6.2 t10_8).bind fun t11_9 =>
 (pr.alloc (LV.agg [(LV.int .i64 0), (LV.str [])]) 4 q6.2).bind fun t4_10 =>
 (pr.store 2 true t4_10.2 t4_10.1 t11_9).bind fun u11 =>
 (pr.fieldAddr 0 0 t4_10.1).bind fun t12_12 =>
 (pr.load 1 false u11.2 t12_12).bind fun t13_13 =>
 (pr.call g id_ip6_extends u11.2 [t13_13]).bind fun t14_14 =>
 (pr.un .not t14_14).bind fun t15_15 =>
 condK t15_15 (
 pr.round noSlots .ret [(LV.bool false), (getL q6.1 1)] u11.2) (
 (pr.bin .add (getL q6.1 1) (LV.int .i64 1)).bind fun t16_17 =>
 pr.round noSlots .normal [(getL q6.1 0), t16_17] u11.2)) (
 pr.round noSlots (.exit 0) [(getL q6.1 0), (getL q6.1 1)] q6.2)) ([(LV.bool false), (LV.int .i64 0)], noSlots)).bind fun r6 =>
 exIf r6.1 (.exit 0) (
 (pr.fieldAddr 6 36 t1_0).bind fun t17_19 =>
 (pr.load 1 false r6.2.2 t17_19).bind fun t18_20 =>
 (pr.guard t18_20 false).bind fun b22 =>
 (if b22 = true then pr.fieldAddr 10 40 t1_0 else some LV.undef).bind fun t20_22 =>
 (pr.guard t18_20 false).bind fun b23 =>
 (if b23 = true then pr.load 1 false r6.2.2 t20_22 else some LV.undef).bind fun t21_23 =>
 (pr.guard t18_20 false).bind fun b24 =>
 (if b24 = true then pr.call g id_ip6_extends r6.2.2 [t21_23] else some LV.undef).bind fun t22_24 =>
 (pr.guard t18_20 false).bind fun b25 =>
 (if b25 = true then pr.un .not t22_24 else some LV.undef).bind fun t23_25 =>
 (pr.guard t18_20 false).bind fun b26 =>
 (if b26 = true then some t23_25 else some LV.undef).bind fun t24_26 =>
 (pr.guard t24_26 true).bind fun b27 =>
 (if b27 = true then pr.fieldAddr 10 40 t1_0 else some LV.undef).bind fun t25_27 =>
 (pr.guard t24_26 true).bind fun b28 =>
 (if b28 = true then pr.load 1 false r6.2.2 t25_27 else some LV.undef).bind fun t26_28 =>
 (pr.guard t24_26 true).bind fun b29 =>
 (if b29 = true then pr.bin .neq t26_28 (LV.int .i64 44) else some LV.undef).bind fun t27_29 =>
 (pr.guard t18_20 false).bind fun b30 =>
 (if b30 = true then pr.pick t24_26 t27_29 (LV.bool false) else some LV.undef).bind fun t28_30 =>
 (pr.pick t18_20 (LV.bool true) t28_30).bind fun t29_31 =>
 pr.fin none r6.2.2 [t29_31]) (exIf r6.1 .ret (
 pr.fin none r6.2.2 [(getL r6.2.1 0)]) (none))
theorem F_ip6_kinds_eq (g : Call) (a0 : LV) : fnEv g c_ip6_kinds [a0] none = F_ip6_kinds g a0 := by kernel_rfl

/-- interpreter/ip6.formed -/
noncomputable def F_ip6_formed (g : Call) (a0 : LV) : Option (LV × Option LV) :=
 (pr.box a0).bind fun t1_0 =>
 (pr.fieldAddr 5 35 t1_0).bind fun t5_2 =>
 (pr.load 1 false noSlots t5_2).bind fun t6_3 =>
 (pr.len false t6_3).bind fun t7_4 =>
 (whileW (fun q6 : List LV × Slots =>
 (pr.bin .lss (getL q6.1 1) t7_4).bind fun t9_7 =>
 condK t9_7 (
 (pr.idxAddr none 2 t6_3 (getL q6.1 1)).bind fun t11_9 =>
 (pr.load 2 true q6.2 t11_9).bind fun t12_10 =>
 (pr.alloc (LV.agg [(LV.int .i64 0), (LV.str [])]) 4 q6.2).bind fun t4_11 =>
 (pr.store 2 true t4_11.2 t4_11.1 t12_10).bind fun u13 =>
 (pr.fieldAddr 1 1 t4_11.1).bind fun t13_14 =>
 (pr.load 1 false u13.2 t13_14).bind fun t14_15 =>
 (pr.len true t14_15).bind fun t15_16 =>
 (pr.bin .rem t15_16 (LV.int .i64 8)).bind fun t16_17 =>
 (pr.bin .neq t16_17 (LV.int .i64 6)).bind fun t17_18 =>
 (pr.guard t17_18 false).bind fun b20 =>
 (if b20 = true then pr.fieldAddr 1 1 t4_11.1 else some LV.undef).bind fun t19_20 =>
 (pr.guard t17_18 false).bind fun b21 =>
 (if b21 = true then pr.load 1 false u13.2 t19_20 else some LV.undef).bind fun t20_21 =>
 (pr.guard t17_18 false).bind fun b22 =>
 (if b22 = true then pr.len true t20_21 else some LV.undef).bind fun t21_22 =>
 (pr.guard t17_18 false).bind fun b23 =>
 (if b23 = true then pr.bin .gtr t21_22 (LV.int .i64 2046) else some LV.undef).bind fun t22_23 =>
 (pr.pick t17_18 (LV.bool true) t22_23).bind fun t23_24 =>
 (pr.guard t23_24 false).bind fun b26 =>
 (if b26 = true then pr.fieldAddr 0 0 t4_11.1 else some LV.undef).bind fun t25_26 =>
 (pr.guard t23_24 false).bind fun b27 =>
 (if b27 = true then pr.load 1 false u13.2 t25_26 else some LV.undef).bind fun t26_27 =>
 (pr.guard t23_24 false).bind fun b28 =>
 (if b28 = true then pr.bin .eql t26_27 (LV.int .i64 0) else some LV.undef).bind fun t27_28 =>
 (pr.guard t23_24 false).bind fun b29 =>
 (if b29 = true then some t27_28 else some LV.undef).bind fun t28_29 =>
 (pr.guard t28_29 true).bind fun b30 =>
 (if b30 = true then some (getL q6.1 1) else some LV.undef).bind fun t29_30 =>
 (pr.guard t28_29 true).bind fun b31 =>
 (if b31 = true then pr.bin .gtr t29_30 (LV.int .i64 0) else some LV.undef).bind fun t30_31 =>
 (pr.guard t23_24 false).bind fun b32 =>
 (if b32 = true then pr.pick t28_29 t30_31 (LV.bool false) else some LV.undef).bind fun t31_32 =>
 (pr.pick t23_24 (LV.bool true) t31_32).bind fun t32_33 =>
 condK t32_33 (
 pr.round noSlots .ret [(LV.bool false), (getL q6.1 1)] u13.2) (
 (pr.bin .add (getL q6.1 1) (LV.int .i64 1)).bind fun t33_35 =>
 pr.round noSlots .normal [(getL q6.1 0), t33_35] u13.2)) (
 pr.round noSlots (.exit 0) [(getL q6.1 0), (getL q6.1 1)] q6.2)) ([(LV.bool false), (LV.int .i64 0)], noSlots)).bind fun r6 =>
 exIf r6.1 (.exit 0) (
 (pr.fieldAddr 6 36 t1_0).bind fun t34_37 =>
 (pr.load 1 false r6.2.2 t34_37).bind fun t35_38 =>
 condK t35_38 (
 (pr.load 42 true r6.2.2 t1_0).bind fun t36_39 =>
 (pr.call g id_ip6_pieced r6.2.2 [t36_39]).bind fun t37_40 =>
 pr.fin none r6.2.2 [t37_40]) (
 (pr.fieldAddr 7 37 t1_0).bind fun t38_42 =>
 (pr.load 1 false r6.2.2 t38_42).bind fun t39_43 =>
 (pr.bin .eql t39_43 (LV.int .u32 0)).bind fun t40_44 =>
 (pr.guard t40_44 true).bind fun b46 =>
 (if b46 = true then pr.fieldAddr 8 38 t1_0 else some LV.undef).bind fun t42_46 =>
 (pr.guard t40_44 true).bind fun b47 =>
 (if b47 = true then pr.load 1 false r6.2.2 t42_46 else some LV.undef).bind fun t43_47 =>
 (pr.guard t40_44 true).bind fun b48 =>
 (if b48 = true then pr.bin .eql t43_47 (LV.int .i64 0) else some LV.undef).bind fun t44_48 =>
 (pr.pick t40_44 t44_48 (LV.bool false)).bind fun t45_49 =>
 (pr.guard t45_49 true).bind fun b51 =>
 (if b51 = true then pr.fieldAddr 9 39 t1_0 else some LV.undef).bind fun t47_51 =>
 (pr.guard t45_49 true).bind fun b52 =>
 (if b52 = true then pr.load 1 false r6.2.2 t47_51 else some LV.undef).bind fun t48_52 =>
 (pr.guard t45_49 true).bind fun b53 =>
 (if b53 = true then pr.un .not t48_52 else some LV.undef).bind fun t49_53 =>
 (pr.pick t45_49 t49_53 (LV.bool false)).bind fun t50_54 =>
 pr.fin none r6.2.2 [t50_54])) (exIf r6.1 .ret (
 pr.fin none r6.2.2 [(getL r6.2.1 0)]) (none))
theorem F_ip6_formed_eq (g : Call) (a0 : LV) : fnEv g c_ip6_formed [a0] none = F_ip6_formed g a0 := by kernel_rfl

/-- interpreter/ip6.size -/
noncomputable def F_ip6_size (g : Call) (a0 : LV) : Option (LV × Option LV) :=
 (pr.box a0).bind fun t1_0 =>
 (pr.fieldAddr 11 41 t1_0).bind fun t6_2 =>
 (pr.load 1 false noSlots t6_2).bind fun t7_3 =>
 (pr.len true t7_3).bind fun t8_4 =>
 (pr.fieldAddr 6 36 t1_0).bind fun t9_6 =>
 (pr.load 1 false noSlots t9_6).bind fun t10_7 =>
 condK t10_7 (
 (pr.bin .add t8_4 (LV.int .i64 8)).bind fun t12_9 =>
 (pr.fieldAddr 5 35 t1_0).bind fun t13_11 =>
 (pr.load 1 false noSlots t13_11).bind fun t14_12 =>
 (pr.len false t14_12).bind fun t15_13 =>
 (whileW (fun q15 : List LV × Slots =>
 (pr.bin .lss (getL q15.1 1) t15_13).bind fun t17_16 =>
 condK t17_16 (
 (pr.idxAddr none 2 t14_12 (getL q15.1 1)).bind fun t18_17 =>
 (pr.load 2 true q15.2 t18_17).bind fun t19_18 =>
 (pr.alloc (LV.agg [(LV.int .i64 0), (LV.str [])]) 5 q15.2).bind fun t5_19 =>
 (pr.store 2 true t5_19.2 t5_19.1 t19_18).bind fun u20 =>
 (pr.fieldAddr 1 1 t5_19.1).bind fun t21_22 =>
 (pr.load 1 false u20.2 t21_22).bind fun t22_23 =>
 (pr.len true t22_23).bind fun t23_24 =>
 (pr.bin .add t23_24 (LV.int .i64 2)).bind fun t24_25 =>
 (pr.bin .add (getL q15.1 0) t24_25).bind fun t25_26 =>
 (pr.bin .add (getL q15.1 1) (LV.int .i64 1)).bind fun t26_28 =>
 pr.round noSlots .normal [t25_26, t26_28] u20.2) (
 pr.round noSlots (.exit 0) [(getL q15.1 0), (getL q15.1 1)] q15.2)) ([t12_9, (LV.int .i64 0)], noSlots)).bind fun r15 =>
 exIf r15.1 (.exit 0) (
 pr.fin none r15.2.2 [(getL r15.2.1 0)]) (none)) (
 (pr.fieldAddr 5 35 t1_0).bind fun t13_32 =>
 (pr.load 1 false noSlots t13_32).bind fun t14_33 =>
 (pr.len false t14_33).bind fun t15_34 =>
 (whileW (fun q36 : List LV × Slots =>
 (pr.bin .lss (getL q36.1 1) t15_34).bind fun t17_37 =>
 condK t17_37 (
 (pr.idxAddr none 2 t14_33 (getL q36.1 1)).bind fun t18_38 =>
 (pr.load 2 true q36.2 t18_38).bind fun t19_39 =>
 (pr.alloc (LV.agg [(LV.int .i64 0), (LV.str [])]) 5 q36.2).bind fun t5_40 =>
 (pr.store 2 true t5_40.2 t5_40.1 t19_39).bind fun u41 =>
 (pr.fieldAddr 1 1 t5_40.1).bind fun t21_43 =>
 (pr.load 1 false u41.2 t21_43).bind fun t22_44 =>
 (pr.len true t22_44).bind fun t23_45 =>
 (pr.bin .add t23_45 (LV.int .i64 2)).bind fun t24_46 =>
 (pr.bin .add (getL q36.1 0) t24_46).bind fun t25_47 =>
 (pr.bin .add (getL q36.1 1) (LV.int .i64 1)).bind fun t26_49 =>
 pr.round noSlots .normal [t25_47, t26_49] u41.2) (
 pr.round noSlots (.exit 0) [(getL q36.1 0), (getL q36.1 1)] q36.2)) ([t8_4, (LV.int .i64 0)], noSlots)).bind fun r36 =>
 exIf r36.1 (.exit 0) (
 pr.fin none r36.2.2 [(getL r36.2.1 0)]) (none))
theorem F_ip6_size_eq (g : Call) (a0 : LV) : fnEv g c_ip6_size [a0] none = F_ip6_size g a0 := by kernel_rfl

/-- interpreter/num.Big -/
noncomputable def F_num_Big (g : Call) (a0 : LV) (a1 : LV) : Option (LV × Option LV) :=
 (pr.bin .neq a1 (LV.int .i64 1)).bind fun t10_3 =>
 (pr.guard t10_3 true).bind fun b5 =>
 (if b5 = true then some a1 else some LV.undef).bind fun t12_5 =>
 (pr.guard t10_3 true).bind fun b6 =>
 (if b6 = true then pr.bin .neq t12_5 (LV.int .i64 2) else some LV.undef).bind fun t13_6 =>
 (pr.pick t10_3 t13_6 (LV.bool false)).bind fun t14_7 =>
 (pr.guard t14_7 true).bind fun b9 =>
 (if b9 = true then some a1 else some LV.undef).bind fun t16_9 =>
 (pr.guard t14_7 true).bind fun b10 =>
 (if b10 = true then pr.bin .neq t16_9 (LV.int .i64 4) else some LV.undef).bind fun t17_10 =>
 (pr.pick t14_7 t17_10 (LV.bool false)).bind fun t18_11 =>
 condK t18_11 (
 (pr.parts (LV.agg [(LV.int .i64 0), (LV.int .i64 0)]) [(0, (LV.int .i64 1))]).bind fun t19_13 =>
 (pr.box t19_13).bind fun t20_14 =>
 (pr.iface ty_ptr_num_Fault t20_14).bind fun t21_15 =>
 pr.fin none noSlots [(LV.str []), t21_15]) (
 (pr.bin .lss a0 (LV.int .i64 0)).bind fun t24_19 =>
 (pr.guard t24_19 false).bind fun b21 =>
 (if b21 = true then some a0 else some LV.undef).bind fun t26_21 =>
 (pr.guard t24_19 false).bind fun b22 =>
 (if b22 = true then some a1 else some LV.undef).bind fun t27_22 =>
 (pr.guard t24_19 false).bind fun b23 =>
 (if b23 = true then pr.bin .mul (LV.int .i64 8) t27_22 else some LV.undef).bind fun t28_23 =>
 (pr.guard t24_19 false).bind fun b24 =>
 (if b24 = true then pr.bin .shl (LV.int .i64 1) t28_23 else some LV.undef).bind fun t29_24 =>
 (pr.guard t24_19 false).bind fun b25 =>
 (if b25 = true then pr.bin .geq t26_21 t29_24 else some LV.undef).bind fun t30_25 =>
 (pr.pick t24_19 (LV.bool true) t30_25).bind fun t31_26 =>
 condK t31_26 (
 (pr.parts (LV.agg [(LV.int .i64 0), (LV.int .i64 0)]) [(0, (LV.int .i64 13))]).bind fun t32_28 =>
 (pr.box t32_28).bind fun t33_29 =>
 (pr.iface ty_ptr_num_Fault t33_29).bind fun t34_30 =>
 pr.fin none noSlots [(LV.str []), t34_30]) (
 (pr.mkSl 36 noSlots a1 a1).bind fun t36_34 =>
 (whileW (fun q38 : List LV × Slots =>
 (pr.bin .lss (getL q38.1 0) a1).bind fun t39_39 =>
 condK t39_39 (
 (pr.bin .sub a1 (LV.int .i64 1)).bind fun t45_46 =>
 (pr.bin .sub t45_46 (getL q38.1 0)).bind fun t47_48 =>
 (pr.bin .mul (LV.int .i64 8) t47_48).bind fun t48_49 =>
 (pr.bin .shr a0 t48_49).bind fun t49_50 =>
 (pr.conv .u8 t49_50).bind fun t50_51 =>
 (pr.idxAddr none 1 t36_34.1 (getL q38.1 0)).bind fun t51_52 =>
 (pr.store 1 false q38.2 t51_52 t50_51).bind fun u53 =>
 (pr.bin .add (getL q38.1 0) (LV.int .i64 1)).bind fun t52_54 =>
 pr.round t36_34.2 .normal [t52_54] u53.2) (
 pr.round t36_34.2 (.exit 1) [(getL q38.1 0)] q38.2)) ([(LV.int .i64 0)], t36_34.2)).bind fun r38 =>
 exIf r38.1 (.exit 1) (
 (pr.b2s r38.2.2 t36_34.1).bind fun t54_57 =>
 pr.fin none r38.2.2 [t54_57, LV.nili]) (none)))
theorem F_num_Big_eq (g : Call) (a0 : LV) (a1 : LV) : fnEv g c_num_Big [a0, a1] none = F_num_Big g a0 a1 := by kernel_rfl

/-- interpreter/interpreterref04.bound -/
noncomputable def F_interpreterref04_bound (g : Call) (a0 : LV) (a1 : LV) : Option (LV × Option LV) :=
 (pr.bin .geq a0 (LV.int .i64 0)).bind fun t6_2 =>
 (pr.guard t6_2 true).bind fun b4 =>
 (if b4 = true then some a0 else some LV.undef).bind fun t8_4 =>
 (pr.guard t6_2 true).bind fun b5 =>
 (if b5 = true then some a1 else some LV.undef).bind fun t9_5 =>
 (pr.guard t6_2 true).bind fun b6 =>
 (if b6 = true then pr.bin .leq t8_4 t9_5 else some LV.undef).bind fun t10_6 =>
 (pr.pick t6_2 t10_6 (LV.bool false)).bind fun t11_7 =>
 pr.fin none noSlots [t11_7]
theorem F_interpreterref04_bound_eq (g : Call) (a0 : LV) (a1 : LV) : fnEv g c_interpreterref04_bound [a0, a1] none = F_interpreterref04_bound g a0 a1 := by kernel_rfl

/-- interpreter/interpreterref01.Put -/
noncomputable def F_interpreterref01_Put (g : Call) (a0 : LV) (a1 : LV) : Option (LV × Option LV) :=
 (whileW (fun q3 : List LV × Slots =>
 (pr.bin .lss (getL q3.1 2) a1).bind fun t9_6 =>
 condK t9_6 (
 (pr.bin .rem (getL q3.1 1) (LV.int .i64 256)).bind fun t13_8 =>
 (pr.conv .u8 t13_8).bind fun t14_9 =>
 (pr.bsl (LV.int .u8 0) 1 [(0, t14_9)]).bind fun t15_10 =>
 (pr.b2s q3.2 t15_10).bind fun t16_11 =>
 (pr.bin .add t16_11 (getL q3.1 0)).bind fun t18_13 =>
 (pr.bin .quo (getL q3.1 1) (LV.int .i64 256)).bind fun t20_16 =>
 (pr.bin .add (getL q3.1 2) (LV.int .i64 1)).bind fun t11_19 =>
 pr.round noSlots .normal [t18_13, t20_16, t11_19] q3.2) (
 pr.round noSlots (.exit 0) [(getL q3.1 0), (getL q3.1 1), (getL q3.1 2)] q3.2)) ([(LV.str []), a0, (LV.int .i64 0)], noSlots)).bind fun r3 =>
 exIf r3.1 (.exit 0) (
 pr.fin none r3.2.2 [(getL r3.2.1 0)]) (none)
theorem F_interpreterref01_Put_eq (g : Call) (a0 : LV) (a1 : LV) : fnEv g c_interpreterref01_Put [a0, a1] none = F_interpreterref01_Put g a0 a1 := by kernel_rfl

/-- (*interpreter/num.Reader).Text -/
noncomputable def F_num_Reader_Text (g : Call) (h : LV) (a1 : LV) : Option (LV × Option LV) :=
 (pr.eqNil 0 false (LV.ptr 0 0 [] 0)).bind fun t34_3 =>
 condK t34_3 (
 (pr.parts (LV.agg [(LV.int .i64 0), (LV.int .i64 0)]) [(0, (LV.int .i64 2))]).bind fun t35_5 =>
 (pr.box t35_5).bind fun t36_6 =>
 (pr.iface ty_ptr_num_Fault t36_6).bind fun t37_7 =>
 pr.fin (some h) (upd noSlots 0 (.obj 0 h)) [(LV.str []), t37_7]) (
 (pr.nilCheck (LV.ptr 0 0 [] 0)).bind fun t40_11 =>
 (pr.fieldAddr 2 2 t40_11).bind fun t41_12 =>
 (pr.load 1 false (upd noSlots 0 (.obj 0 h)) t41_12).bind fun t42_13 =>
 (pr.eqNil 0 true t42_13).bind fun t43_14 =>
 condK t43_14 (
 (pr.nilCheck (LV.ptr 0 0 [] 0)).bind fun t79_17 =>
 (pr.fieldAddr 2 2 t79_17).bind fun t80_18 =>
 (pr.load 1 false (upd noSlots 0 (.obj 0 h)) t80_18).bind fun t81_19 =>
 (pr.nilCheck t81_19).bind fun t82_20 =>
 (pr.load 2 true (upd noSlots 0 (.obj 0 h)) t82_20).bind fun t83_21 =>
 (pr.alloc (LV.agg [(LV.int .i64 0), (LV.int .i64 0)]) 7 (upd noSlots 0 (.obj 0 h))).bind fun t7_22 =>
 (pr.store 2 true t7_22.2 t7_22.1 t83_21).bind fun u23 =>
 (pr.iface ty_ptr_num_Fault t7_22.1).bind fun t84_24 =>
 pr.fin (some h) u23.2 [(LV.str []), t84_24]) (
 (pr.bin .lss a1 (LV.int .i64 0)).bind fun t46_28 =>
 condK t46_28 (
 (pr.nilCheck (LV.ptr 0 0 [] 0)).bind fun t49_32 =>
 (pr.fieldAddr 1 1 t49_32).bind fun t50_33 =>
 (pr.load 1 false (upd noSlots 0 (.obj 0 h)) t50_33).bind fun t51_34 =>
 (pr.parts (LV.agg [(LV.int .i64 0), (LV.int .i64 0)]) [(0, (LV.int .i64 1)), (1, t51_34)]).bind fun t52_35 =>
 (pr.box t52_35).bind fun t53_36 =>
 (pr.nilCheck (LV.ptr 0 0 [] 0)).bind fun t54_37 =>
 (pr.fieldAddr 2 2 t54_37).bind fun t55_38 =>
 (pr.store 1 false (upd noSlots 0 (.obj 0 h)) t55_38 t53_36).bind fun u39 =>
 (pr.nilCheck (LV.ptr 0 0 [] 0)).bind fun t79_41 =>
 (pr.fieldAddr 2 2 t79_41).bind fun t80_42 =>
 (pr.load 1 false u39.2 t80_42).bind fun t81_43 =>
 (pr.nilCheck t81_43).bind fun t82_44 =>
 (pr.load 2 true u39.2 t82_44).bind fun t83_45 =>
 (pr.alloc (LV.agg [(LV.int .i64 0), (LV.int .i64 0)]) 7 u39.2).bind fun t7_46 =>
 (pr.store 2 true t7_46.2 t7_46.1 t83_45).bind fun u47 =>
 (pr.iface ty_ptr_num_Fault t7_46.1).bind fun t84_48 =>
 pr.fin (some h) u47.2 [(LV.str []), t84_48]) (
 (pr.nilCheck (LV.ptr 0 0 [] 0)).bind fun t59_53 =>
 (pr.fieldAddr 0 0 t59_53).bind fun t60_54 =>
 (pr.load 1 false (upd noSlots 0 (.obj 0 h)) t60_54).bind fun t61_55 =>
 (pr.len true t61_55).bind fun t62_56 =>
 (pr.nilCheck (LV.ptr 0 0 [] 0)).bind fun t64_58 =>
 (pr.fieldAddr 1 1 t64_58).bind fun t65_59 =>
 (pr.load 1 false (upd noSlots 0 (.obj 0 h)) t65_59).bind fun t66_60 =>
 (pr.bin .sub t62_56 t66_60).bind fun t67_61 =>
 (pr.bin .gtr a1 t67_61).bind fun t68_62 =>
 condK t68_62 (
 (pr.nilCheck (LV.ptr 0 0 [] 0)).bind fun t71_66 =>
 (pr.fieldAddr 1 1 t71_66).bind fun t72_67 =>
 (pr.load 1 false (upd noSlots 0 (.obj 0 h)) t72_67).bind fun t73_68 =>
 (pr.parts (LV.agg [(LV.int .i64 0), (LV.int .i64 0)]) [(0, (LV.int .i64 7)), (1, t73_68)]).bind fun t74_69 =>
 (pr.box t74_69).bind fun t75_70 =>
 (pr.nilCheck (LV.ptr 0 0 [] 0)).bind fun t76_71 =>
 (pr.fieldAddr 2 2 t76_71).bind fun t77_72 =>
 (pr.store 1 false (upd noSlots 0 (.obj 0 h)) t77_72 t75_70).bind fun u73 =>
 (pr.nilCheck (LV.ptr 0 0 [] 0)).bind fun t79_75 =>
 (pr.fieldAddr 2 2 t79_75).bind fun t80_76 =>
 (pr.load 1 false u73.2 t80_76).bind fun t81_77 =>
 (pr.nilCheck t81_77).bind fun t82_78 =>
 (pr.load 2 true u73.2 t82_78).bind fun t83_79 =>
 (pr.alloc (LV.agg [(LV.int .i64 0), (LV.int .i64 0)]) 7 u73.2).bind fun t7_80 =>
 (pr.store 2 true t7_80.2 t7_80.1 t83_79).bind fun u81 =>
 (pr.iface ty_ptr_num_Fault t7_80.1).bind fun t84_82 =>
 pr.fin (some h) u81.2 [(LV.str []), t84_82]) (
 (pr.nilCheck (LV.ptr 0 0 [] 0)).bind fun t9_86 =>
 (pr.fieldAddr 0 0 t9_86).bind fun t10_87 =>
 (pr.load 1 false (upd noSlots 0 (.obj 0 h)) t10_87).bind fun t11_88 =>
 (pr.nilCheck (LV.ptr 0 0 [] 0)).bind fun t13_90 =>
 (pr.fieldAddr 1 1 t13_90).bind fun t14_91 =>
 (pr.load 1 false (upd noSlots 0 (.obj 0 h)) t14_91).bind fun t15_92 =>
 (pr.nilCheck (LV.ptr 0 0 [] 0)).bind fun t17_94 =>
 (pr.fieldAddr 1 1 t17_94).bind fun t18_95 =>
 (pr.load 1 false (upd noSlots 0 (.obj 0 h)) t18_95).bind fun t19_96 =>
 (pr.bin .add t19_96 a1).bind fun t21_98 =>
 (pr.slc 0 t11_88 (some t15_92) (some t21_98)).bind fun t22_99 =>
 (pr.nilCheck (LV.ptr 0 0 [] 0)).bind fun t24_102 =>
 (pr.fieldAddr 1 1 t24_102).bind fun t25_103 =>
 (pr.load 1 false (upd noSlots 0 (.obj 0 h)) t25_103).bind fun t26_104 =>
 (pr.bin .add t26_104 a1).bind fun t28_106 =>
 (pr.nilCheck (LV.ptr 0 0 [] 0)).bind fun t29_107 =>
 (pr.fieldAddr 1 1 t29_107).bind fun t30_108 =>
 (pr.store 1 false (upd noSlots 0 (.obj 0 h)) t30_108 t28_106).bind fun u109 =>
 pr.fin (some h) u109.2 [t22_99, LV.nili]))))
theorem F_num_Reader_Text_eq (g : Call) (h : LV) (a1 : LV) : fnEv g c_num_Reader_Text [(LV.ptr 0 0 [] 0), a1] (some h) = F_num_Reader_Text g h a1 := by kernel_rfl

/-- (*interpreter/interpreterref01.Reader).Text -/
noncomputable def F_interpreterref01_Reader_Text (g : Call) (h : LV) (a1 : LV) : Option (LV × Option LV) :=
 (pr.nilCheck (LV.ptr 0 0 [] 0)).bind fun t9_3 =>
 (pr.fieldAddr 2 2 t9_3).bind fun t10_4 =>
 (pr.load 1 false (upd noSlots 0 (.obj 0 h)) t10_4).bind fun t11_5 =>
 (pr.bin .neq t11_5 (LV.int .i64 0)).bind fun t12_6 =>
 condK t12_6 (
 (pr.nilCheck (LV.ptr 0 0 [] 0)).bind fun t14_8 =>
 (pr.fieldAddr 2 2 t14_8).bind fun t15_9 =>
 (pr.load 1 false (upd noSlots 0 (.obj 0 h)) t15_9).bind fun t16_10 =>
 pr.fin (some h) (upd noSlots 0 (.obj 0 h)) [(LV.str []), t16_10]) (
 (pr.bin .lss a1 (LV.int .i64 0)).bind fun t18_14 =>
 condK t18_14 (
 (pr.nilCheck (LV.ptr 0 0 [] 0)).bind fun t20_16 =>
 (pr.fieldAddr 2 2 t20_16).bind fun t21_17 =>
 (pr.store 1 false (upd noSlots 0 (.obj 0 h)) t21_17 (LV.int .i64 1)).bind fun u18 =>
 (pr.nilCheck (LV.ptr 0 0 [] 0)).bind fun t47_20 =>
 (pr.fieldAddr 2 2 t47_20).bind fun t48_21 =>
 (pr.load 1 false u18.2 t48_21).bind fun t49_22 =>
 (pr.bin .neq t49_22 (LV.int .i64 0)).bind fun t50_23 =>
 condK t50_23 (
 (pr.nilCheck (LV.ptr 0 0 [] 0)).bind fun t53_26 =>
 (pr.fieldAddr 1 1 t53_26).bind fun t54_27 =>
 (pr.load 1 false u18.2 t54_27).bind fun t55_28 =>
 (pr.nilCheck (LV.ptr 0 0 [] 0)).bind fun t56_29 =>
 (pr.fieldAddr 3 3 t56_29).bind fun t57_30 =>
 (pr.store 1 false u18.2 t57_30 t55_28).bind fun u31 =>
 (pr.nilCheck (LV.ptr 0 0 [] 0)).bind fun t59_33 =>
 (pr.fieldAddr 2 2 t59_33).bind fun t60_34 =>
 (pr.load 1 false u31.2 t60_34).bind fun t61_35 =>
 pr.fin (some h) u31.2 [(LV.str []), t61_35]) (
 (whileW (fun q40 : List LV × Slots =>
 (pr.bin .lss (getL q40.1 1) a1).bind fun t64_43 =>
 condK t64_43 (
 (pr.nilCheck (LV.ptr 0 0 [] 0)).bind fun t69_46 =>
 (pr.fieldAddr 0 0 t69_46).bind fun t70_47 =>
 (pr.load 1 false q40.2 t70_47).bind fun t71_48 =>
 (pr.nilCheck (LV.ptr 0 0 [] 0)).bind fun t73_50 =>
 (pr.fieldAddr 1 1 t73_50).bind fun t74_51 =>
 (pr.load 1 false q40.2 t74_51).bind fun t75_52 =>
 (pr.nilCheck (LV.ptr 0 0 [] 0)).bind fun t77_54 =>
 (pr.fieldAddr 1 1 t77_54).bind fun t78_55 =>
 (pr.load 1 false q40.2 t78_55).bind fun t79_56 =>
 (pr.bin .add t79_56 (LV.int .i64 1)).bind fun t80_57 =>
 (pr.slc 0 t71_48 (some t75_52) (some t80_57)).bind fun t81_58 =>
 (pr.bin .add (getL q40.1 0) t81_58).bind fun t82_59 =>
 (pr.nilCheck (LV.ptr 0 0 [] 0)).bind fun t85_63 =>
 (pr.fieldAddr 1 1 t85_63).bind fun t86_64 =>
 (pr.load 1 false q40.2 t86_64).bind fun t87_65 =>
 (pr.bin .add t87_65 (LV.int .i64 1)).bind fun t88_66 =>
 (pr.nilCheck (LV.ptr 0 0 [] 0)).bind fun t89_67 =>
 (pr.fieldAddr 1 1 t89_67).bind fun t90_68 =>
 (pr.store 1 false q40.2 t90_68 t88_66).bind fun u69 =>
 (pr.bin .add (getL q40.1 1) (LV.int .i64 1)).bind fun t66_71 =>
 pr.round u18.2 .normal [t82_59, t66_71] u69.2) (
 pr.round u18.2 (.exit 0) [(getL q40.1 0), (getL q40.1 1)] q40.2)) ([(LV.str []), (LV.int .i64 0)], u18.2)).bind fun r40 =>
 exIf r40.1 (.exit 0) (
 pr.fin (some h) r40.2.2 [(getL r40.2.1 0), (LV.int .i64 0)]) (none))) (
 (pr.nilCheck (LV.ptr 0 0 [] 0)).bind fun t24_78 =>
 (pr.fieldAddr 0 0 t24_78).bind fun t25_79 =>
 (pr.load 1 false (upd noSlots 0 (.obj 0 h)) t25_79).bind fun t26_80 =>
 (pr.len true t26_80).bind fun t27_81 =>
 (pr.bin .gtr a1 t27_81).bind fun t28_82 =>
 (pr.guard t28_82 false).bind fun b84 =>
 (if b84 = true then some (LV.ptr 0 0 [] 0) else some LV.undef).bind fun t30_84 =>
 (pr.guard t28_82 false).bind fun b85 =>
 (if b85 = true then pr.nilCheck t30_84 else some LV.undef).bind fun t31_85 =>
 (pr.guard t28_82 false).bind fun b86 =>
 (if b86 = true then pr.fieldAddr 1 1 t31_85 else some LV.undef).bind fun t32_86 =>
 (pr.guard t28_82 false).bind fun b87 =>
 (if b87 = true then pr.load 1 false (upd noSlots 0 (.obj 0 h)) t32_86 else some LV.undef).bind fun t33_87 =>
 (pr.guard t28_82 false).bind fun b88 =>
 (if b88 = true then some (LV.ptr 0 0 [] 0) else some LV.undef).bind fun t34_88 =>
 (pr.guard t28_82 false).bind fun b89 =>
 (if b89 = true then pr.nilCheck t34_88 else some LV.undef).bind fun t35_89 =>
 (pr.guard t28_82 false).bind fun b90 =>
 (if b90 = true then pr.fieldAddr 0 0 t35_89 else some LV.undef).bind fun t36_90 =>
 (pr.guard t28_82 false).bind fun b91 =>
 (if b91 = true then pr.load 1 false (upd noSlots 0 (.obj 0 h)) t36_90 else some LV.undef).bind fun t37_91 =>
 (pr.guard t28_82 false).bind fun b92 =>
 (if b92 = true then pr.len true t37_91 else some LV.undef).bind fun t38_92 =>
 (pr.guard t28_82 false).bind fun b93 =>
 (if b93 = true then some a1 else some LV.undef).bind fun t39_93 =>
 (pr.guard t28_82 false).bind fun b94 =>
 (if b94 = true then pr.bin .sub t38_92 t39_93 else some LV.undef).bind fun t40_94 =>
 (pr.guard t28_82 false).bind fun b95 =>
 (if b95 = true then pr.bin .gtr t33_87 t40_94 else some LV.undef).bind fun t41_95 =>
 (pr.pick t28_82 (LV.bool true) t41_95).bind fun t42_96 =>
 condK t42_96 (
 (pr.nilCheck (LV.ptr 0 0 [] 0)).bind fun t44_98 =>
 (pr.fieldAddr 2 2 t44_98).bind fun t45_99 =>
 (pr.store 1 false (upd noSlots 0 (.obj 0 h)) t45_99 (LV.int .i64 7)).bind fun u100 =>
 (pr.nilCheck (LV.ptr 0 0 [] 0)).bind fun t47_102 =>
 (pr.fieldAddr 2 2 t47_102).bind fun t48_103 =>
 (pr.load 1 false u100.2 t48_103).bind fun t49_104 =>
 (pr.bin .neq t49_104 (LV.int .i64 0)).bind fun t50_105 =>
 condK t50_105 (
 (pr.nilCheck (LV.ptr 0 0 [] 0)).bind fun t53_108 =>
 (pr.fieldAddr 1 1 t53_108).bind fun t54_109 =>
 (pr.load 1 false u100.2 t54_109).bind fun t55_110 =>
 (pr.nilCheck (LV.ptr 0 0 [] 0)).bind fun t56_111 =>
 (pr.fieldAddr 3 3 t56_111).bind fun t57_112 =>
 (pr.store 1 false u100.2 t57_112 t55_110).bind fun u113 =>
 (pr.nilCheck (LV.ptr 0 0 [] 0)).bind fun t59_115 =>
 (pr.fieldAddr 2 2 t59_115).bind fun t60_116 =>
 (pr.load 1 false u113.2 t60_116).bind fun t61_117 =>
 pr.fin (some h) u113.2 [(LV.str []), t61_117]) (
 (whileW (fun q122 : List LV × Slots =>
 (pr.bin .lss (getL q122.1 1) a1).bind fun t64_125 =>
 condK t64_125 (
 (pr.nilCheck (LV.ptr 0 0 [] 0)).bind fun t69_128 =>
 (pr.fieldAddr 0 0 t69_128).bind fun t70_129 =>
 (pr.load 1 false q122.2 t70_129).bind fun t71_130 =>
 (pr.nilCheck (LV.ptr 0 0 [] 0)).bind fun t73_132 =>
 (pr.fieldAddr 1 1 t73_132).bind fun t74_133 =>
 (pr.load 1 false q122.2 t74_133).bind fun t75_134 =>
 (pr.nilCheck (LV.ptr 0 0 [] 0)).bind fun t77_136 =>
 (pr.fieldAddr 1 1 t77_136).bind fun t78_137 =>
 (pr.load 1 false q122.2 t78_137).bind fun t79_138 =>
 (pr.bin .add t79_138 (LV.int .i64 1)).bind fun t80_139 =>
 (pr.slc 0 t71_130 (some t75_134) (some t80_139)).bind fun t81_140 =>
 (pr.bin .add (getL q122.1 0) t81_140).bind fun t82_141 =>
 (pr.nilCheck (LV.ptr 0 0 [] 0)).bind fun t85_145 =>
 (pr.fieldAddr 1 1 t85_145).bind fun t86_146 =>
 (pr.load 1 false q122.2 t86_146).bind fun t87_147 =>
 (pr.bin .add t87_147 (LV.int .i64 1)).bind fun t88_148 =>
 (pr.nilCheck (LV.ptr 0 0 [] 0)).bind fun t89_149 =>
 (pr.fieldAddr 1 1 t89_149).bind fun t90_150 =>
 (pr.store 1 false q122.2 t90_150 t88_148).bind fun u151 =>
 (pr.bin .add (getL q122.1 1) (LV.int .i64 1)).bind fun t66_153 =>
 pr.round u100.2 .normal [t82_141, t66_153] u151.2) (
 pr.round u100.2 (.exit 0) [(getL q122.1 0), (getL q122.1 1)] q122.2)) ([(LV.str []), (LV.int .i64 0)], u100.2)).bind fun r122 =>
 exIf r122.1 (.exit 0) (
 pr.fin (some h) r122.2.2 [(getL r122.2.1 0), (LV.int .i64 0)]) (none))) (
 (pr.nilCheck (LV.ptr 0 0 [] 0)).bind fun t47_159 =>
 (pr.fieldAddr 2 2 t47_159).bind fun t48_160 =>
 (pr.load 1 false (upd noSlots 0 (.obj 0 h)) t48_160).bind fun t49_161 =>
 (pr.bin .neq t49_161 (LV.int .i64 0)).bind fun t50_162 =>
 condK t50_162 (
 (pr.nilCheck (LV.ptr 0 0 [] 0)).bind fun t53_165 =>
 (pr.fieldAddr 1 1 t53_165).bind fun t54_166 =>
 (pr.load 1 false (upd noSlots 0 (.obj 0 h)) t54_166).bind fun t55_167 =>
 (pr.nilCheck (LV.ptr 0 0 [] 0)).bind fun t56_168 =>
 (pr.fieldAddr 3 3 t56_168).bind fun t57_169 =>
 (pr.store 1 false (upd noSlots 0 (.obj 0 h)) t57_169 t55_167).bind fun u170 =>
 (pr.nilCheck (LV.ptr 0 0 [] 0)).bind fun t59_172 =>
 (pr.fieldAddr 2 2 t59_172).bind fun t60_173 =>
 (pr.load 1 false u170.2 t60_173).bind fun t61_174 =>
 pr.fin (some h) u170.2 [(LV.str []), t61_174]) (
 (whileW (fun q179 : List LV × Slots =>
 (pr.bin .lss (getL q179.1 1) a1).bind fun t64_182 =>
 condK t64_182 (
 (pr.nilCheck (LV.ptr 0 0 [] 0)).bind fun t69_185 =>
 (pr.fieldAddr 0 0 t69_185).bind fun t70_186 =>
 (pr.load 1 false q179.2 t70_186).bind fun t71_187 =>
 (pr.nilCheck (LV.ptr 0 0 [] 0)).bind fun t73_189 =>
 (pr.fieldAddr 1 1 t73_189).bind fun t74_190 =>
 (pr.load 1 false q179.2 t74_190).bind fun t75_191 =>
 (pr.nilCheck (LV.ptr 0 0 [] 0)).bind fun t77_193 =>
 (pr.fieldAddr 1 1 t77_193).bind fun t78_194 =>
 (pr.load 1 false q179.2 t78_194).bind fun t79_195 =>
 (pr.bin .add t79_195 (LV.int .i64 1)).bind fun t80_196 =>
 (pr.slc 0 t71_187 (some t75_191) (some t80_196)).bind fun t81_197 =>
 (pr.bin .add (getL q179.1 0) t81_197).bind fun t82_198 =>
 (pr.nilCheck (LV.ptr 0 0 [] 0)).bind fun t85_202 =>
 (pr.fieldAddr 1 1 t85_202).bind fun t86_203 =>
 (pr.load 1 false q179.2 t86_203).bind fun t87_204 =>
 (pr.bin .add t87_204 (LV.int .i64 1)).bind fun t88_205 =>
 (pr.nilCheck (LV.ptr 0 0 [] 0)).bind fun t89_206 =>
 (pr.fieldAddr 1 1 t89_206).bind fun t90_207 =>
 (pr.store 1 false q179.2 t90_207 t88_205).bind fun u208 =>
 (pr.bin .add (getL q179.1 1) (LV.int .i64 1)).bind fun t66_210 =>
 pr.round (upd noSlots 0 (.obj 0 h)) .normal [t82_198, t66_210] u208.2) (
 pr.round (upd noSlots 0 (.obj 0 h)) (.exit 0) [(getL q179.1 0), (getL q179.1 1)] q179.2)) ([(LV.str []), (LV.int .i64 0)], (upd noSlots 0 (.obj 0 h)))).bind fun r179 =>
 exIf r179.1 (.exit 0) (
 pr.fin (some h) r179.2.2 [(getL r179.2.1 0), (LV.int .i64 0)]) (none)))))
theorem F_interpreterref01_Reader_Text_eq (g : Call) (h : LV) (a1 : LV) : fnEv g c_interpreterref01_Reader_Text [(LV.ptr 0 0 [] 0), a1] (some h) = F_interpreterref01_Reader_Text g h a1 := by kernel_rfl


end Go.Ev

/- Which functions are known. -/
namespace Go.Ev
structure Has (S : Sys) : Prop where
  h_interpreterlaw04_Ip6Reads : S.fns id_interpreterlaw04_Ip6Reads = some c_interpreterlaw04_Ip6Reads
  h_interpreterlaw04_Ip6Chains : S.fns id_interpreterlaw04_Ip6Chains = some c_interpreterlaw04_Ip6Chains
  h_interpreterlaw04_Ip6Back : S.fns id_interpreterlaw04_Ip6Back = some c_interpreterlaw04_Ip6Back
  h_interpreterlaw04_Ip6Again : S.fns id_interpreterlaw04_Ip6Again = some c_interpreterlaw04_Ip6Again
  h_interpreterlaw04_Ip6Links : S.fns id_interpreterlaw04_Ip6Links = some c_interpreterlaw04_Ip6Links
  h_interpreterlaw04_Ip6Fields : S.fns id_interpreterlaw04_Ip6Fields = some c_interpreterlaw04_Ip6Fields
  h_interpreterlaw04_Ip6Known : S.fns id_interpreterlaw04_Ip6Known = some c_interpreterlaw04_Ip6Known
  h_interpreterlaw04_Ip6Writes : S.fns id_interpreterlaw04_Ip6Writes = some c_interpreterlaw04_Ip6Writes
  h_interpreterlaw04_awake : S.fns id_interpreterlaw04_awake = some c_interpreterlaw04_awake
  h_ip6_Parse : S.fns id_ip6_Parse = some c_ip6_Parse
  h_interpreterref04_Parse : S.fns id_interpreterref04_Parse = some c_interpreterref04_Parse
  h_interpreterref04_Same : S.fns id_interpreterref04_Same = some c_interpreterref04_Same
  h_interpreterlaw04_same : S.fns id_interpreterlaw04_same = some c_interpreterlaw04_same
  h_ip6_Chain : S.fns id_ip6_Chain = some c_ip6_Chain
  h_interpreterref04_Chain : S.fns id_interpreterref04_Chain = some c_interpreterref04_Chain
  h_interpreterlaw04_Great : S.fns id_interpreterlaw04_Great = some c_interpreterlaw04_Great
  h_ip6_Bytes : S.fns id_ip6_Bytes = some c_ip6_Bytes
  h_interpreterlaw04_zeros : S.fns id_interpreterlaw04_zeros = some c_interpreterlaw04_zeros
  h_ip6_Routed : S.fns id_ip6_Routed = some c_ip6_Routed
  h_interpreterref04_Bytes : S.fns id_interpreterref04_Bytes = some c_interpreterref04_Bytes
  h_interpreterref04_Routed : S.fns id_interpreterref04_Routed = some c_interpreterref04_Routed
  h_ip6_fault : S.fns id_ip6_fault = some c_ip6_fault
  h_num_New : S.fns id_num_New = some c_num_New
  h_num_Reader_U32 : S.fns id_num_Reader_U32 = some c_num_Reader_U32
  h_ip6_pieced : S.fns id_ip6_pieced = some c_ip6_pieced
  h_interpreterref04_number : S.fns id_interpreterref04_number = some c_interpreterref04_number
  h_ip6_extends : S.fns id_ip6_extends = some c_ip6_extends
  h_ip6_why : S.fns id_ip6_why = some c_ip6_why
  h_ip6_big : S.fns id_ip6_big = some c_ip6_big
  h_interpreterref04_Why : S.fns id_interpreterref04_Why = some c_interpreterref04_Why
  h_interpreterref04_put : S.fns id_interpreterref04_put = some c_interpreterref04_put
  h_num_Reader_number : S.fns id_num_Reader_number = some c_num_Reader_number
  h_interpreterref01_Reader_Number : S.fns id_interpreterref01_Reader_Number = some c_interpreterref01_Reader_Number
  h_ip6_within : S.fns id_ip6_within = some c_ip6_within
  h_ip6_kinds : S.fns id_ip6_kinds = some c_ip6_kinds
  h_ip6_formed : S.fns id_ip6_formed = some c_ip6_formed
  h_ip6_size : S.fns id_ip6_size = some c_ip6_size
  h_num_Big : S.fns id_num_Big = some c_num_Big
  h_interpreterref04_bound : S.fns id_interpreterref04_bound = some c_interpreterref04_bound
  h_interpreterref01_Put : S.fns id_interpreterref01_Put = some c_interpreterref01_Put
  h_num_Reader_Text : S.fns id_num_Reader_Text = some c_num_Reader_Text
  h_interpreterref01_Reader_Text : S.fns id_interpreterref01_Reader_Text = some c_interpreterref01_Reader_Text
  x_rep : HasRep S id_strings_Repeat
abbrev faultLV (c : Int) : LV := .ifc ty_ptr_num_Fault (.box (.agg [.int .i64 c, .int .i64 0]))
end Go.Ev

/- The system of this seat. -/
namespace Go.Ev
set_option maxRecDepth 100000
def table : List (Nat × MFn) := [
  (id_interpreterlaw04_Ip6Reads, c_interpreterlaw04_Ip6Reads),
  (id_interpreterlaw04_Ip6Chains, c_interpreterlaw04_Ip6Chains),
  (id_interpreterlaw04_Ip6Back, c_interpreterlaw04_Ip6Back),
  (id_interpreterlaw04_Ip6Again, c_interpreterlaw04_Ip6Again),
  (id_interpreterlaw04_Ip6Links, c_interpreterlaw04_Ip6Links),
  (id_interpreterlaw04_Ip6Fields, c_interpreterlaw04_Ip6Fields),
  (id_interpreterlaw04_Ip6Known, c_interpreterlaw04_Ip6Known),
  (id_interpreterlaw04_Ip6Writes, c_interpreterlaw04_Ip6Writes),
  (id_interpreterlaw04_awake, c_interpreterlaw04_awake),
  (id_ip6_Parse, c_ip6_Parse),
  (id_interpreterref04_Parse, c_interpreterref04_Parse),
  (id_interpreterref04_Same, c_interpreterref04_Same),
  (id_interpreterlaw04_same, c_interpreterlaw04_same),
  (id_ip6_Chain, c_ip6_Chain),
  (id_interpreterref04_Chain, c_interpreterref04_Chain),
  (id_interpreterlaw04_Great, c_interpreterlaw04_Great),
  (id_ip6_Bytes, c_ip6_Bytes),
  (id_interpreterlaw04_zeros, c_interpreterlaw04_zeros),
  (id_ip6_Routed, c_ip6_Routed),
  (id_interpreterref04_Bytes, c_interpreterref04_Bytes),
  (id_interpreterref04_Routed, c_interpreterref04_Routed),
  (id_ip6_fault, c_ip6_fault),
  (id_num_New, c_num_New),
  (id_num_Reader_U32, c_num_Reader_U32),
  (id_ip6_pieced, c_ip6_pieced),
  (id_interpreterref04_number, c_interpreterref04_number),
  (id_ip6_extends, c_ip6_extends),
  (id_ip6_why, c_ip6_why),
  (id_ip6_big, c_ip6_big),
  (id_interpreterref04_Why, c_interpreterref04_Why),
  (id_interpreterref04_put, c_interpreterref04_put),
  (id_num_Reader_number, c_num_Reader_number),
  (id_interpreterref01_Reader_Number, c_interpreterref01_Reader_Number),
  (id_ip6_within, c_ip6_within),
  (id_ip6_kinds, c_ip6_kinds),
  (id_ip6_formed, c_ip6_formed),
  (id_ip6_size, c_ip6_size),
  (id_num_Big, c_num_Big),
  (id_interpreterref04_bound, c_interpreterref04_bound),
  (id_interpreterref01_Put, c_interpreterref01_Put),
  (id_num_Reader_Text, c_num_Reader_Text),
  (id_interpreterref01_Reader_Text, c_interpreterref01_Reader_Text)]
def sys : Sys := { fns := fun f => (table.find? fun p => p.1 == f).map (·.2), ext := extR id_strings_Repeat }
theorem sysHas : Has sys where
  h_interpreterlaw04_Ip6Reads := by kernel_rfl
  h_interpreterlaw04_Ip6Chains := by kernel_rfl
  h_interpreterlaw04_Ip6Back := by kernel_rfl
  h_interpreterlaw04_Ip6Again := by kernel_rfl
  h_interpreterlaw04_Ip6Links := by kernel_rfl
  h_interpreterlaw04_Ip6Fields := by kernel_rfl
  h_interpreterlaw04_Ip6Known := by kernel_rfl
  h_interpreterlaw04_Ip6Writes := by kernel_rfl
  h_interpreterlaw04_awake := by kernel_rfl
  h_ip6_Parse := by kernel_rfl
  h_interpreterref04_Parse := by kernel_rfl
  h_interpreterref04_Same := by kernel_rfl
  h_interpreterlaw04_same := by kernel_rfl
  h_ip6_Chain := by kernel_rfl
  h_interpreterref04_Chain := by kernel_rfl
  h_interpreterlaw04_Great := by kernel_rfl
  h_ip6_Bytes := by kernel_rfl
  h_interpreterlaw04_zeros := by kernel_rfl
  h_ip6_Routed := by kernel_rfl
  h_interpreterref04_Bytes := by kernel_rfl
  h_interpreterref04_Routed := by kernel_rfl
  h_ip6_fault := by kernel_rfl
  h_num_New := by kernel_rfl
  h_num_Reader_U32 := by kernel_rfl
  h_ip6_pieced := by kernel_rfl
  h_interpreterref04_number := by kernel_rfl
  h_ip6_extends := by kernel_rfl
  h_ip6_why := by kernel_rfl
  h_ip6_big := by kernel_rfl
  h_interpreterref04_Why := by kernel_rfl
  h_interpreterref04_put := by kernel_rfl
  h_num_Reader_number := by kernel_rfl
  h_interpreterref01_Reader_Number := by kernel_rfl
  h_ip6_within := by kernel_rfl
  h_ip6_kinds := by kernel_rfl
  h_ip6_formed := by kernel_rfl
  h_ip6_size := by kernel_rfl
  h_num_Big := by kernel_rfl
  h_interpreterref04_bound := by kernel_rfl
  h_interpreterref01_Put := by kernel_rfl
  h_num_Reader_Text := by kernel_rfl
  h_interpreterref01_Reader_Text := by kernel_rfl
  x_rep := ⟨by kernel_rfl, rfl⟩
end Go.Ev
