/- Part 4 of a proof: what the functions yield. It stands by itself; no condition. -/
import Derived.Test.YtbepgpjmdlnehaaDoorE3
import Derived.KernelRfl
import Derived.Test.YtbepgpjmdlnehaaDoorE2
namespace Go.Ev
set_option linter.unusedVariables false
set_option maxRecDepth 100000
noncomputable def F_interpreterlaw05_UdpLengths (g : Call) (a0 : LV) : Option (LV × Option LV) :=
 (pr.call g id_interpreterlaw05_awake noSlots []).bind fun t6_1 =>
 (pr.un .not t6_1).bind fun t7_2 =>
 condK t7_2 (
 pr.fin none noSlots [(LV.bool false)]) (
 (pr.len true a0).bind fun t9_5 =>
 (pr.bin .gtr t9_5 (LV.int .i64 70000)).bind fun t10_6 =>
 condK t10_6 (
 pr.fin none noSlots [(LV.bool true)]) (
 (pr.call g id_udp_Parse noSlots [a0]).bind fun t13_9 =>
 (pr.extract t13_9 0).bind fun t14_11 =>
 (pr.extract t13_9 1).bind fun t15_12 =>
 (pr.alloc (LV.agg [(LV.int .i64 0), (LV.int .i64 0), (LV.int .i64 0), (LV.str [])]) 3 noSlots).bind fun t3_13 =>
 (pr.store 4 true t3_13.2 t3_13.1 t14_11).bind fun u14 =>
 (pr.len true a0).bind fun t17_17 =>
 (pr.bin .geq t17_17 (LV.int .i64 8)).bind fun t18_18 =>
 (pr.guard t18_18 true).bind fun b20 =>
 (if b20 = true then some a0 else some LV.undef).bind fun t20_20 =>
 (pr.guard t18_18 true).bind fun b21 =>
 (if b21 = true then pr.idxStr t20_20 (LV.int .i64 4) else some LV.undef).bind fun t21_21 =>
 (pr.guard t18_18 true).bind fun b22 =>
 (if b22 = true then pr.conv .i64 t21_21 else some LV.undef).bind fun t22_22 =>
 (pr.guard t18_18 true).bind fun b23 =>
 (if b23 = true then pr.bin .mul t22_22 (LV.int .i64 256) else some LV.undef).bind fun t23_23 =>
 (pr.guard t18_18 true).bind fun b24 =>
 (if b24 = true then some a0 else some LV.undef).bind fun t24_24 =>
 (pr.guard t18_18 true).bind fun b25 =>
 (if b25 = true then pr.idxStr t24_24 (LV.int .i64 5) else some LV.undef).bind fun t25_25 =>
 (pr.guard t18_18 true).bind fun b26 =>
 (if b26 = true then pr.conv .i64 t25_25 else some LV.undef).bind fun t26_26 =>
 (pr.guard t18_18 true).bind fun b27 =>
 (if b27 = true then pr.bin .add t23_23 t26_26 else some LV.undef).bind fun t27_27 =>
 (pr.guard t18_18 true).bind fun b28 =>
 (if b28 = true then some a0 else some LV.undef).bind fun t28_28 =>
 (pr.guard t18_18 true).bind fun b29 =>
 (if b29 = true then pr.len true t28_28 else some LV.undef).bind fun t29_29 =>
 (pr.guard t18_18 true).bind fun b30 =>
 (if b30 = true then pr.bin .eql t27_27 t29_29 else some LV.undef).bind fun t30_30 =>
 (pr.pick t18_18 t30_30 (LV.bool false)).bind fun t31_31 =>
 (pr.eqNil 1 false t15_12).bind fun t33_34 =>
 (pr.eqB true t33_34 t31_31).bind fun t35_36 =>
 condK t35_36 (
 pr.fin none u14.2 [(LV.bool false)]) (
 (pr.un .not t31_31).bind fun t37_39 =>
 condK t37_39 (
 (pr.load 4 true u14.2 t3_13.1).bind fun t38_40 =>
 (pr.parts (LV.agg [(LV.int .i64 0), (LV.int .i64 0), (LV.int .i64 0), (LV.str [])]) []).bind fun t39_41 =>
 (pr.eqS (Sh.agg [(Sh.int .i64), (Sh.int .i64), (Sh.int .i64), Sh.str]) false t38_40 t39_41).bind fun t40_42 =>
 (pr.guard t40_42 true).bind fun b44 =>
 (if b44 = true then some a0 else some LV.undef).bind fun t42_44 =>
 (pr.guard t40_42 true).bind fun b45 =>
 (if b45 = true then pr.call g id_udp_Check u14.2 [t42_44, (LV.str [])] else some LV.undef).bind fun t43_45 =>
 (pr.guard t40_42 true).bind fun b46 =>
 (if b46 = true then pr.call g id_num_Code u14.2 [t43_45] else some LV.undef).bind fun t44_46 =>
 (pr.guard t40_42 true).bind fun b47 =>
 (if b47 = true then some t15_12 else some LV.undef).bind fun t45_47 =>
 (pr.guard t40_42 true).bind fun b48 =>
 (if b48 = true then pr.call g id_num_Code u14.2 [t45_47] else some LV.undef).bind fun t46_48 =>
 (pr.guard t40_42 true).bind fun b49 =>
 (if b49 = true then pr.bin .eql t44_46 t46_48 else some LV.undef).bind fun t47_49 =>
 (pr.pick t40_42 t47_49 (LV.bool false)).bind fun t48_50 =>
 pr.fin none u14.2 [t48_50]) (
 (pr.fieldAddr 3 3 t3_13.1).bind fun t49_52 =>
 (pr.load 1 false u14.2 t49_52).bind fun t50_53 =>
 (pr.slc 0 a0 (some (LV.int .i64 8)) none).bind fun t52_55 =>
 (pr.bin .eql t50_53 t52_55).bind fun t53_56 =>
 (pr.guard t53_56 true).bind fun b58 =>
 (if b58 = true then pr.fieldAddr 2 2 t3_13.1 else some LV.undef).bind fun t55_58 =>
 (pr.guard t53_56 true).bind fun b59 =>
 (if b59 = true then pr.load 1 false u14.2 t55_58 else some LV.undef).bind fun t56_59 =>
 (pr.guard t53_56 true).bind fun b60 =>
 (if b60 = true then pr.bin .eql t56_59 (LV.int .i64 0) else some LV.undef).bind fun t57_60 =>
 (pr.guard t53_56 true).bind fun b61 =>
 (if b61 = true then some a0 else some LV.undef).bind fun t58_61 =>
 (pr.guard t53_56 true).bind fun b62 =>
 (if b62 = true then pr.slc 0 t58_61 (some (LV.int .i64 6)) (some (LV.int .i64 8)) else some LV.undef).bind fun t59_62 =>
 (pr.guard t53_56 true).bind fun b63 =>
 (if b63 = true then pr.bin .eql t59_62 (LV.str [0, 0]) else some LV.undef).bind fun t60_63 =>
 (pr.guard t53_56 true).bind fun b64 =>
 (if b64 = true then pr.eqB false t57_60 t60_63 else some LV.undef).bind fun t61_64 =>
 (pr.pick t53_56 t61_64 (LV.bool false)).bind fun t62_65 =>
 (pr.guard t62_65 true).bind fun b67 =>
 (if b67 = true then some a0 else some LV.undef).bind fun t64_67 =>
 (pr.guard t62_65 true).bind fun b68 =>
 (if b68 = true then pr.call g id_udp_Check u14.2 [t64_67, (LV.str [])] else some LV.undef).bind fun t65_68 =>
 (pr.guard t62_65 true).bind fun b69 =>
 (if b69 = true then pr.call g id_num_Code u14.2 [t65_68] else some LV.undef).bind fun t66_69 =>
 (pr.guard t62_65 true).bind fun b70 =>
 (if b70 = true then pr.bin .eql t66_69 (LV.int .i64 4) else some LV.undef).bind fun t67_70 =>
 (pr.guard t62_65 true).bind fun b71 =>
 (if b71 = true then pr.fieldAddr 2 2 t3_13.1 else some LV.undef).bind fun t68_71 =>
 (pr.guard t62_65 true).bind fun b72 =>
 (if b72 = true then pr.load 1 false u14.2 t68_71 else some LV.undef).bind fun t69_72 =>
 (pr.guard t62_65 true).bind fun b73 =>
 (if b73 = true then pr.bin .eql t69_72 (LV.int .i64 0) else some LV.undef).bind fun t70_73 =>
 (pr.guard t62_65 true).bind fun b74 =>
 (if b74 = true then pr.eqB false t67_70 t70_73 else some LV.undef).bind fun t71_74 =>
 (pr.pick t62_65 t71_74 (LV.bool false)).bind fun t72_75 =>
 pr.fin none u14.2 [t72_75]))))
theorem F_interpreterlaw05_UdpLengths_eq (g : Call) (a0 : LV) : fnEv g c_interpreterlaw05_UdpLengths [a0] none = F_interpreterlaw05_UdpLengths g a0 := by kernel_rfl
noncomputable def F_interpreterlaw05_awake (g : Call) : Option (LV × Option LV) :=
 (pr.parts (LV.agg [(LV.int .i64 0), (LV.int .i64 0), (LV.int .i64 0), (LV.str [])]) [(0, (LV.int .i64 1)), (1, (LV.int .i64 2)), (3, (LV.str [104, 105]))]).bind fun t6_1 =>
 (pr.call g id_udp_Bytes noSlots [t6_1, (LV.str [])]).bind fun t7_2 =>
 (pr.extract t7_2 0).bind fun t8_4 =>
 (pr.extract t7_2 1).bind fun t9_5 =>
 (pr.call g id_udp_Parse noSlots [t8_4]).bind fun t12_9 =>
 (pr.extract t12_9 0).bind fun t13_11 =>
 (pr.extract t12_9 1).bind fun t14_12 =>
 (pr.alloc (LV.agg [(LV.int .i64 0), (LV.int .i64 0), (LV.int .i64 0), (LV.str [])]) 3 noSlots).bind fun t3_13 =>
 (pr.store 4 true t3_13.2 t3_13.1 t13_11).bind fun u14 =>
 (pr.eqNil 1 false t9_5).bind fun t16_17 =>
 (pr.guard t16_17 true).bind fun b19 =>
 (if b19 = true then some t14_12 else some LV.undef).bind fun t18_19 =>
 (pr.guard t16_17 true).bind fun b20 =>
 (if b20 = true then pr.eqNil 1 false t18_19 else some LV.undef).bind fun t19_20 =>
 (pr.pick t16_17 t19_20 (LV.bool false)).bind fun t20_21 =>
 (pr.guard t20_21 true).bind fun b23 =>
 (if b23 = true then some t8_4 else some LV.undef).bind fun t22_23 =>
 (pr.guard t20_21 true).bind fun b24 =>
 (if b24 = true then pr.bin .eql t22_23 (LV.str [0, 1, 0, 2, 0, 10, 151, 137, 104, 105]) else some LV.undef).bind fun t23_24 =>
 (pr.pick t20_21 t23_24 (LV.bool false)).bind fun t24_25 =>
 (pr.guard t24_25 true).bind fun b27 =>
 (if b27 = true then pr.load 4 true u14.2 t3_13.1 else some LV.undef).bind fun t26_27 =>
 (pr.guard t24_25 true).bind fun b28 =>
 (if b28 = true then pr.parts (LV.agg [(LV.int .i64 0), (LV.int .i64 0), (LV.int .i64 0), (LV.str [])]) [(0, (LV.int .i64 1)), (1, (LV.int .i64 2)), (2, (LV.int .i64 38793)), (3, (LV.str [104, 105]))] else some LV.undef).bind fun t27_28 =>
 (pr.guard t24_25 true).bind fun b29 =>
 (if b29 = true then pr.eqS (Sh.agg [(Sh.int .i64), (Sh.int .i64), (Sh.int .i64), Sh.str]) false t26_27 t27_28 else some LV.undef).bind fun t28_29 =>
 (pr.pick t24_25 t28_29 (LV.bool false)).bind fun t29_30 =>
 pr.fin none u14.2 [t29_30]
theorem F_interpreterlaw05_awake_eq (g : Call) : fnEv g c_interpreterlaw05_awake [] none = F_interpreterlaw05_awake g := by kernel_rfl
noncomputable def F_udp_Parse (g : Call) (a0 : LV) : Option (LV × Option LV) :=
 (pr.alloc (LV.agg [(LV.int .i64 0), (LV.int .i64 0), (LV.int .i64 0), (LV.str [])]) 2 noSlots).bind fun t2_0 =>
 (pr.len true a0).bind fun t6_3 =>
 (pr.bin .lss t6_3 (LV.int .i64 8)).bind fun t7_4 =>
 condK t7_4 (
 (pr.parts (LV.agg [(LV.int .i64 0), (LV.int .i64 0), (LV.int .i64 0), (LV.str [])]) []).bind fun t8_6 =>
 (pr.call g id_udp_fault t2_0.2 [(LV.int .i64 7)]).bind fun t9_7 =>
 (pr.store 4 true t2_0.2 t2_0.1 t8_6).bind fun u8 =>
 (pr.load 4 true u8.2 t2_0.1).bind fun v10 =>
 pr.fin none u8.2 [v10, t9_7]) (
 (pr.call g id_udp_two t2_0.2 [a0, (LV.int .i64 4)]).bind fun t12_12 =>
 (pr.len true a0).bind fun t14_14 =>
 (pr.bin .neq t12_12 t14_14).bind fun t15_15 =>
 condK t15_15 (
 (pr.parts (LV.agg [(LV.int .i64 0), (LV.int .i64 0), (LV.int .i64 0), (LV.str [])]) []).bind fun t16_17 =>
 (pr.call g id_udp_fault t2_0.2 [(LV.int .i64 8)]).bind fun t17_18 =>
 (pr.store 4 true t2_0.2 t2_0.1 t16_17).bind fun u19 =>
 (pr.load 4 true u19.2 t2_0.1).bind fun v21 =>
 pr.fin none u19.2 [v21, t17_18]) (
 (pr.call g id_udp_two t2_0.2 [a0, (LV.int .i64 0)]).bind fun t19_23 =>
 (pr.call g id_udp_two t2_0.2 [a0, (LV.int .i64 2)]).bind fun t21_25 =>
 (pr.call g id_udp_two t2_0.2 [a0, (LV.int .i64 6)]).bind fun t23_27 =>
 (pr.slc 0 a0 (some (LV.int .i64 8)) none).bind fun t25_29 =>
 (pr.parts (LV.agg [(LV.int .i64 0), (LV.int .i64 0), (LV.int .i64 0), (LV.str [])]) [(0, t19_23), (1, t21_25), (2, t23_27), (3, t25_29)]).bind fun t26_30 =>
 (pr.store 4 true t2_0.2 t2_0.1 t26_30).bind fun u31 =>
 (pr.load 4 true u31.2 t2_0.1).bind fun v33 =>
 pr.fin none u31.2 [v33, LV.nili]))
theorem F_udp_Parse_eq (g : Call) (a0 : LV) : fnEv g c_udp_Parse [a0] none = F_udp_Parse g a0 := by kernel_rfl
noncomputable def F_udp_Check (g : Call) (a0 : LV) (a1 : LV) : Option (LV × Option LV) :=
 (pr.call g id_udp_Parse noSlots [a0]).bind fun t9_2 =>
 (pr.extract t9_2 0).bind fun t10_4 =>
 (pr.extract t9_2 1).bind fun t11_5 =>
 (pr.alloc (LV.agg [(LV.int .i64 0), (LV.int .i64 0), (LV.int .i64 0), (LV.str [])]) 5 noSlots).bind fun t5_6 =>
 (pr.store 4 true t5_6.2 t5_6.1 t10_4).bind fun u7 =>
 (pr.eqNil 1 true t11_5).bind fun t14_10 =>
 condK t14_10 (
 pr.fin none u7.2 [t11_5]) (
 (pr.fieldAddr 2 2 t5_6.1).bind fun t17_14 =>
 (pr.load 1 false u7.2 t17_14).bind fun t18_15 =>
 (pr.bin .eql t18_15 (LV.int .i64 0)).bind fun t19_16 =>
 condK t19_16 (
 (pr.call g id_udp_fault u7.2 [(LV.int .i64 4)]).bind fun t20_18 =>
 pr.fin none u7.2 [t20_18]) (
 (pr.bsl (LV.str []) 2 [(0, a1), (1, a0)]).bind fun t24_22 =>
 (pr.call g id_sum_Right u7.2 [t24_22]).bind fun t25_23 =>
 (pr.un .not t25_23).bind fun t26_24 =>
 condK t26_24 (
 (pr.call g id_udp_fault u7.2 [(LV.int .i64 9)]).bind fun t27_26 =>
 pr.fin none u7.2 [t27_26]) (
 pr.fin none u7.2 [LV.nili])))
theorem F_udp_Check_eq (g : Call) (a0 : LV) (a1 : LV) : fnEv g c_udp_Check [a0, a1] none = F_udp_Check g a0 a1 := by kernel_rfl
noncomputable def F_udp_Bytes (g : Call) (a0 : LV) (a1 : LV) : Option (LV × Option LV) :=
 (pr.box a0).bind fun t2_0 =>
 (pr.fieldAddr 0 0 t2_0).bind fun t13_3 =>
 (pr.load 1 false noSlots t13_3).bind fun t14_4 =>
 (pr.call g id_num_Big noSlots [t14_4, (LV.int .i64 2)]).bind fun t15_5 =>
 (pr.extract t15_5 0).bind fun t16_7 =>
 (pr.extract t15_5 1).bind fun t17_8 =>
 (pr.eqNil 1 true t17_8).bind fun t19_12 =>
 condK t19_12 (
 pr.fin none noSlots [(LV.str []), t17_8]) (
 (pr.fieldAddr 1 1 t2_0).bind fun t22_16 =>
 (pr.load 1 false noSlots t22_16).bind fun t23_17 =>
 (pr.call g id_num_Big noSlots [t23_17, (LV.int .i64 2)]).bind fun t24_18 =>
 (pr.extract t24_18 0).bind fun t25_20 =>
 (pr.extract t24_18 1).bind fun t26_21 =>
 (pr.eqNil 1 true t26_21).bind fun t28_25 =>
 condK t28_25 (
 pr.fin none noSlots [(LV.str []), t26_21]) (
 (pr.fieldAddr 3 3 t2_0).bind fun t31_29 =>
 (pr.load 1 false noSlots t31_29).bind fun t32_30 =>
 (pr.len true t32_30).bind fun t33_31 =>
 (pr.bin .add (LV.int .i64 8) t33_31).bind fun t34_32 =>
 (pr.call g id_num_Big noSlots [t34_32, (LV.int .i64 2)]).bind fun t35_33 =>
 (pr.extract t35_33 0).bind fun t36_35 =>
 (pr.extract t35_33 1).bind fun t37_36 =>
 (pr.eqNil 1 true t37_36).bind fun t39_40 =>
 condK t39_40 (
 (pr.call g id_udp_fault noSlots [(LV.int .i64 3)]).bind fun t40_41 =>
 pr.fin none noSlots [(LV.str []), t40_41]) (
 (pr.fieldAddr 3 3 t2_0).bind fun t45_48 =>
 (pr.load 1 false noSlots t45_48).bind fun t46_49 =>
 (pr.bsl (LV.str []) 6 [(0, a1), (1, t16_7), (2, t25_20), (3, t36_35), (4, (LV.str [0, 0])), (5, t46_49)]).bind fun t47_50 =>
 (pr.call g id_sum_Of noSlots [t47_50]).bind fun t48_51 =>
 (pr.bin .eql t48_51 (LV.int .i64 0)).bind fun t50_54 =>
 condK t50_54 (
 (pr.call g id_num_Big noSlots [(LV.int .i64 65535), (LV.int .i64 2)]).bind fun t53_57 =>
 (pr.extract t53_57 0).bind fun t54_59 =>
 (pr.extract t53_57 1).bind fun t55_60 =>
 (pr.bin .add t16_7 t25_20).bind fun t58_65 =>
 (pr.bin .add t58_65 t36_35).bind fun t60_67 =>
 (pr.bin .add t60_67 t54_59).bind fun t62_69 =>
 (pr.fieldAddr 3 3 t2_0).bind fun t63_70 =>
 (pr.load 1 false noSlots t63_70).bind fun t64_71 =>
 (pr.bin .add t62_69 t64_71).bind fun t65_72 =>
 pr.fin none noSlots [t65_72, t55_60]) (
 (pr.call g id_num_Big noSlots [t48_51, (LV.int .i64 2)]).bind fun t53_77 =>
 (pr.extract t53_77 0).bind fun t54_79 =>
 (pr.extract t53_77 1).bind fun t55_80 =>
 (pr.bin .add t16_7 t25_20).bind fun t58_85 =>
 (pr.bin .add t58_85 t36_35).bind fun t60_87 =>
 (pr.bin .add t60_87 t54_79).bind fun t62_89 =>
 (pr.fieldAddr 3 3 t2_0).bind fun t63_90 =>
 (pr.load 1 false noSlots t63_90).bind fun t64_91 =>
 (pr.bin .add t62_89 t64_91).bind fun t65_92 =>
 pr.fin none noSlots [t65_92, t55_80]))))
theorem F_udp_Bytes_eq (g : Call) (a0 : LV) (a1 : LV) : fnEv g c_udp_Bytes [a0, a1] none = F_udp_Bytes g a0 a1 := by kernel_rfl
noncomputable def F_udp_fault (g : Call) (a0 : LV) : Option (LV × Option LV) :=
 (pr.parts (LV.agg [(LV.int .i64 0), (LV.int .i64 0)]) [(0, a0)]).bind fun t4_2 =>
 (pr.box t4_2).bind fun t5_3 =>
 (pr.iface ty_ptr_num_Fault t5_3).bind fun t6_4 =>
 pr.fin none noSlots [t6_4]
theorem F_udp_fault_eq (g : Call) (a0 : LV) : fnEv g c_udp_fault [a0] none = F_udp_fault g a0 := by kernel_rfl
noncomputable def F_udp_two (g : Call) (a0 : LV) (a1 : LV) : Option (LV × Option LV) :=
 (pr.idxStr a0 a1).bind fun t7_3 =>
 (pr.conv .i64 t7_3).bind fun t8_4 =>
 (pr.bin .shl t8_4 (LV.int .u64 8)).bind fun t9_5 =>
 (pr.bin .add a1 (LV.int .i64 1)).bind fun t12_8 =>
 (pr.idxStr a0 t12_8).bind fun t13_9 =>
 (pr.conv .i64 t13_9).bind fun t14_10 =>
 (pr.bin .or t9_5 t14_10).bind fun t15_11 =>
 pr.fin none noSlots [t15_11]
theorem F_udp_two_eq (g : Call) (a0 : LV) (a1 : LV) : fnEv g c_udp_two [a0, a1] none = F_udp_two g a0 a1 := by kernel_rfl
noncomputable def F_sum_Right (g : Call) (a0 : LV) : Option (LV × Option LV) :=
 (pr.call g id_sum_Of noSlots [a0]).bind fun t4_2 =>
 (pr.bin .eql t4_2 (LV.int .i64 0)).bind fun t5_3 =>
 pr.fin none noSlots [t5_3]
theorem F_sum_Right_eq (g : Call) (a0 : LV) : fnEv g c_sum_Right [a0] none = F_sum_Right g a0 := by kernel_rfl
noncomputable def F_num_Big (g : Call) (a0 : LV) (a1 : LV) : Option (LV × Option LV) :=
 (pr.bin .neq a1 (LV.int .i64 1)).bind fun t10_3 =>
 (pr.guard t10_3 true).bind fun b5 =>
 (if b5 = true then some a1 else some LV.undef).bind fun t12_5 =>
 (pr.guard t10_3 true).bind fun b6 =>
 (if b6 = true then pr.bin .neq t12_5 (LV.int .i64 2) else some LV.undef).bind fun t13_6 =>
 (pr.pick t10_3 t13_6 (LV.bool false)).bind fun t14_7 =>
 (pr.guard t14_7 true).bind fun b9 =>
 (if b9 = true then some a1 else some LV.undef).bind fun t16_9 =>
 (pr.guard t14_7 true).bind fun b10 =>
 (if b10 = true then pr.bin .neq t16_9 (LV.int .i64 4) else some LV.undef).bind fun t17_10 =>
 (pr.pick t14_7 t17_10 (LV.bool false)).bind fun t18_11 =>
 condK t18_11 (
 (pr.parts (LV.agg [(LV.int .i64 0), (LV.int .i64 0)]) [(0, (LV.int .i64 1))]).bind fun t19_13 =>
 (pr.box t19_13).bind fun t20_14 =>
 (pr.iface ty_ptr_num_Fault t20_14).bind fun t21_15 =>
 pr.fin none noSlots [(LV.str []), t21_15]) (
 (pr.bin .lss a0 (LV.int .i64 0)).bind fun t24_19 =>
 (pr.guard t24_19 false).bind fun b21 =>
 (if b21 = true then some a0 else some LV.undef).bind fun t26_21 =>
 (pr.guard t24_19 false).bind fun b22 =>
 (if b22 = true then some a1 else some LV.undef).bind fun t27_22 =>
 (pr.guard t24_19 false).bind fun b23 =>
 (if b23 = true then pr.bin .mul (LV.int .i64 8) t27_22 else some LV.undef).bind fun t28_23 =>
 (pr.guard t24_19 false).bind fun b24 =>
 (if b24 = true then pr.bin .shl (LV.int .i64 1) t28_23 else some LV.undef).bind fun t29_24 =>
 (pr.guard t24_19 false).bind fun b25 =>
 (if b25 = true then pr.bin .geq t26_21 t29_24 else some LV.undef).bind fun t30_25 =>
 (pr.pick t24_19 (LV.bool true) t30_25).bind fun t31_26 =>
 condK t31_26 (
 (pr.parts (LV.agg [(LV.int .i64 0), (LV.int .i64 0)]) [(0, (LV.int .i64 13))]).bind fun t32_28 =>
 (pr.box t32_28).bind fun t33_29 =>
 (pr.iface ty_ptr_num_Fault t33_29).bind fun t34_30 =>
 pr.fin none noSlots [(LV.str []), t34_30]) (
 (pr.mkSl 36 noSlots a1 a1).bind fun t36_34 =>
 (whileW (fun q38 : List LV × Slots =>
 (pr.bin .lss (getL q38.1 0) a1).bind fun t39_39 =>
 condK t39_39 (
 (pr.bin .sub a1 (LV.int .i64 1)).bind fun t45_46 =>
 (pr.bin .sub t45_46 (getL q38.1 0)).bind fun t47_48 =>
 (pr.bin .mul (LV.int .i64 8) t47_48).bind fun t48_49 =>
 (pr.bin .shr a0 t48_49).bind fun t49_50 =>
 (pr.conv .u8 t49_50).bind fun t50_51 =>
 (pr.idxAddr none 1 t36_34.1 (getL q38.1 0)).bind fun t51_52 =>
 (pr.store 1 false q38.2 t51_52 t50_51).bind fun u53 =>
 (pr.bin .add (getL q38.1 0) (LV.int .i64 1)).bind fun t52_54 =>
 pr.round t36_34.2 .normal [t52_54] u53.2) (
 pr.round t36_34.2 (.exit 1) [(getL q38.1 0)] q38.2)) ([(LV.int .i64 0)], t36_34.2)).bind fun r38 =>
 exIf r38.1 (.exit 1) (
 (pr.b2s r38.2.2 t36_34.1).bind fun t54_57 =>
 pr.fin none r38.2.2 [t54_57, LV.nili]) (none)))
theorem F_num_Big_eq (g : Call) (a0 : LV) (a1 : LV) : fnEv g c_num_Big [a0, a1] none = F_num_Big g a0 a1 := by kernel_rfl
noncomputable def F_sum_Of (g : Call) (a0 : LV) : Option (LV × Option LV) :=
 (pr.len false a0).bind fun t8_4 =>
 (whileW (fun q6 : List LV × Slots =>
 (pr.bin .lss (getL q6.1 2) t8_4).bind fun t10_7 =>
 condK t10_7 (
 (pr.idxAddr none 1 a0 (getL q6.1 2)).bind fun t11_8 =>
 (pr.load 1 false q6.2 t11_8).bind fun t12_9 =>
 (pr.call g id_sum_add q6.2 [(getL q6.1 0), (getL q6.1 1), t12_9, (LV.int .u8 0)]).bind fun t16_14 =>
 (pr.call g id_sum_fold q6.2 [t16_14]).bind fun t17_15 =>
 (pr.len true t12_9).bind fun t20_19 =>
 (pr.bin .add (getL q6.1 1) t20_19).bind fun t21_20 =>
 (pr.bin .add (getL q6.1 2) (LV.int .i64 1)).bind fun t22_22 =>
 pr.round noSlots .normal [t17_15, t21_20, t22_22] q6.2) (
 pr.round noSlots (.exit 0) [(getL q6.1 0), (getL q6.1 1), (getL q6.1 2)] q6.2)) ([(LV.int .i64 0), (LV.int .i64 0), (LV.int .i64 0)], noSlots)).bind fun r6 =>
 exIf r6.1 (.exit 0) (
 (pr.bin .sub (LV.int .i64 65535) (getL r6.2.1 0)).bind fun t24_25 =>
 pr.fin none r6.2.2 [t24_25]) (none)
theorem F_sum_Of_eq (g : Call) (a0 : LV) : fnEv g c_sum_Of [a0] none = F_sum_Of g a0 := by kernel_rfl
noncomputable def F_sum_fold (g : Call) (a0 : LV) : Option (LV × Option LV) :=
 (whileW (fun q1 : List LV × Slots =>
 (pr.bin .gtr (getL q1.1 0) (LV.int .i64 65535)).bind fun t4_3 =>
 condK t4_3 (
 (pr.bin .shr (getL q1.1 0) (LV.int .u64 16)).bind fun t6_5 =>
 (pr.bin .and (getL q1.1 0) (LV.int .i64 65535)).bind fun t8_7 =>
 (pr.bin .add t6_5 t8_7).bind fun t9_8 =>
 pr.round noSlots .normal [t9_8] q1.2) (
 pr.round noSlots (.exit 0) [(getL q1.1 0)] q1.2)) ([a0], noSlots)).bind fun r1 =>
 exIf r1.1 (.exit 0) (
 pr.fin none r1.2.2 [(getL r1.2.1 0)]) (none)
theorem F_sum_fold_eq (g : Call) (a0 : LV) : fnEv g c_sum_fold [a0] none = F_sum_fold g a0 := by kernel_rfl
noncomputable def F_sum_add (g : Call) (a0 : LV) (a1 : LV) (a2 : LV) (a3 : LV) : Option (LV × Option LV) :=
 (pr.len true a2).bind fun t12_2 =>
 (whileW (fun q4 : List LV × Slots =>
 (pr.bin .lss (getL q4.1 1) t12_2).bind fun t14_5 =>
 condK t14_5 (
 (pr.idxStr a2 (getL q4.1 1)).bind fun t18_10 =>
 (pr.bin .xor t18_10 a3).bind fun t20_12 =>
 (pr.conv .i64 t20_12).bind fun t21_13 =>
 (pr.bin .add a1 (getL q4.1 1)).bind fun t24_17 =>
 (pr.bin .rem t24_17 (LV.int .i64 2)).bind fun t25_18 =>
 (pr.bin .eql t25_18 (LV.int .i64 0)).bind fun t26_19 =>
 condK t26_19 (
 (pr.bin .shl t21_13 (LV.int .u64 8)).bind fun t28_21 =>
 (pr.bin .add (getL q4.1 0) t28_21).bind fun t31_25 =>
 (pr.bin .add (getL q4.1 1) (LV.int .i64 1)).bind fun t32_27 =>
 pr.round noSlots .normal [t31_25, t32_27] q4.2) (
 (pr.bin .add (getL q4.1 0) t21_13).bind fun t31_31 =>
 (pr.bin .add (getL q4.1 1) (LV.int .i64 1)).bind fun t32_33 =>
 pr.round noSlots .normal [t31_31, t32_33] q4.2)) (
 pr.round noSlots (.exit 0) [(getL q4.1 0), (getL q4.1 1)] q4.2)) ([a0, (LV.int .i64 0)], noSlots)).bind fun r4 =>
 exIf r4.1 (.exit 0) (
 pr.fin none r4.2.2 [(getL r4.2.1 0)]) (none)
theorem F_sum_add_eq (g : Call) (a0 : LV) (a1 : LV) (a2 : LV) (a3 : LV) : fnEv g c_sum_add [a0, a1, a2, a3] none = F_sum_add g a0 a1 a2 a3 := by kernel_rfl
end Go.Ev

namespace Go.Ev
structure Has (S : Sys) : Prop where
  h_interpreterlaw05_UdpLengths : S.fns id_interpreterlaw05_UdpLengths = some c_interpreterlaw05_UdpLengths
  h_interpreterlaw05_awake : S.fns id_interpreterlaw05_awake = some c_interpreterlaw05_awake
  h_udp_Parse : S.fns id_udp_Parse = some c_udp_Parse
  h_udp_Check : S.fns id_udp_Check = some c_udp_Check
  h_udp_Bytes : S.fns id_udp_Bytes = some c_udp_Bytes
  h_udp_fault : S.fns id_udp_fault = some c_udp_fault
  h_udp_two : S.fns id_udp_two = some c_udp_two
  h_sum_Right : S.fns id_sum_Right = some c_sum_Right
  h_num_Big : S.fns id_num_Big = some c_num_Big
  h_sum_Of : S.fns id_sum_Of = some c_sum_Of
  h_sum_fold : S.fns id_sum_fold = some c_sum_fold
  h_sum_add : S.fns id_sum_add = some c_sum_add
  x_code : HasCode S id_num_Code ty_ptr_num_Fault
abbrev faultLV (c : Int) : LV := .ifc ty_ptr_num_Fault (.box (.agg [.int .i64 c, .int .i64 0]))
end Go.Ev

namespace Go.Ev
set_option maxRecDepth 100000
def table : List (Nat × MFn) := [
  (id_interpreterlaw05_UdpLengths, c_interpreterlaw05_UdpLengths),
  (id_interpreterlaw05_awake, c_interpreterlaw05_awake),
  (id_udp_Parse, c_udp_Parse),
  (id_udp_Check, c_udp_Check),
  (id_udp_Bytes, c_udp_Bytes),
  (id_udp_fault, c_udp_fault),
  (id_udp_two, c_udp_two),
  (id_sum_Right, c_sum_Right),
  (id_num_Big, c_num_Big),
  (id_sum_Of, c_sum_Of),
  (id_sum_fold, c_sum_fold),
  (id_sum_add, c_sum_add)]
def sys : Sys := { fns := fun f => (table.find? fun p => p.1 == f).map (·.2), ext := extCode id_num_Code ty_ptr_num_Fault }
theorem sysHas : Has sys where
  h_interpreterlaw05_UdpLengths := by kernel_rfl
  h_interpreterlaw05_awake := by kernel_rfl
  h_udp_Parse := by kernel_rfl
  h_udp_Check := by kernel_rfl
  h_udp_Bytes := by kernel_rfl
  h_udp_fault := by kernel_rfl
  h_udp_two := by kernel_rfl
  h_sum_Right := by kernel_rfl
  h_num_Big := by kernel_rfl
  h_sum_Of := by kernel_rfl
  h_sum_fold := by kernel_rfl
  h_sum_add := by kernel_rfl
  x_code := ⟨by kernel_rfl, fun _ _ h => h⟩
end Go.Ev
