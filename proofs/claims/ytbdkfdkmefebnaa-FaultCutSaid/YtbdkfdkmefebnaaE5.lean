/- Part 5 of a proof: what the functions yield. It stands by itself; no condition. -/
import Derived.Test.YtbdkfdkmefebnaaE4
import Derived.Test.YtbdkfdkmefebnaaE2
import Derived.KernelRfl
/- Which functions are known. -/
namespace Go.Ev
structure Has (S : Sys) : Prop where
  h_interpreterlaw15_FaultCut : S.fns id_interpreterlaw15_FaultCut = some c_interpreterlaw15_FaultCut
  h_interpreterlaw15_gram : S.fns id_interpreterlaw15_gram = some c_interpreterlaw15_gram
  h_interpreterref03_Bytes : S.fns id_interpreterref03_Bytes = some c_interpreterref03_Bytes
  h_fault_Own4 : S.fns id_fault_Own4 = some c_fault_Own4
  h_fault_Inside4 : S.fns id_fault_Inside4 = some c_fault_Inside4
  h_interpreterlaw15_awake : S.fns id_interpreterlaw15_awake = some c_interpreterlaw15_awake
  h_interpreterlaw15_same : S.fns id_interpreterlaw15_same = some c_interpreterlaw15_same
  h_fault_Quote6 : S.fns id_fault_Quote6 = some c_fault_Quote6
  h_fault_Inside6 : S.fns id_fault_Inside6 = some c_fault_Inside6
  h_fault_Quote4 : S.fns id_fault_Quote4 = some c_fault_Quote4
  h_ip4_Parse : S.fns id_ip4_Parse = some c_ip4_Parse
  h_sum_Pseudo6 : S.fns id_sum_Pseudo6 = some c_sum_Pseudo6
  h_fault_Carry6 : S.fns id_fault_Carry6 = some c_fault_Carry6
  h_icmp6_Failure : S.fns id_icmp6_Failure = some c_icmp6_Failure
  h_icmp4_Failure : S.fns id_icmp4_Failure = some c_icmp4_Failure
  h_fault_Carry4 : S.fns id_fault_Carry4 = some c_fault_Carry4
  h_interpreterref03_Why : S.fns id_interpreterref03_Why = some c_interpreterref03_Why
  h_interpreterref02_Of : S.fns id_interpreterref02_Of = some c_interpreterref02_Of
  h_class_Martian4 : S.fns id_class_Martian4 = some c_class_Martian4
  h_fault_beginning : S.fns id_fault_beginning = some c_fault_beginning
  h_icmp4_Bytes : S.fns id_icmp4_Bytes = some c_icmp4_Bytes
  h_ip4_Bytes : S.fns id_ip4_Bytes = some c_ip4_Bytes
  h_fault_fault : S.fns id_fault_fault = some c_fault_fault
  h_sum_Right : S.fns id_sum_Right = some c_sum_Right
  h_fault_Inside4_1 : S.fns id_fault_Inside4_1 = some c_fault_Inside4_1
  h_fault_short : S.fns id_fault_short = some c_fault_short
  h_interpreterref03_Parse : S.fns id_interpreterref03_Parse = some c_interpreterref03_Parse
  h_head46_Proto : S.fns id_head46_Proto = some c_head46_Proto
  h_fault_within : S.fns id_fault_within = some c_fault_within
  h_fault_big : S.fns id_fault_big = some c_fault_big
  h_fault_turn6 : S.fns id_fault_turn6 = some c_fault_turn6
  h_ip6_Chain : S.fns id_ip6_Chain = some c_ip6_Chain
  h_num_New : S.fns id_num_New = some c_num_New
  h_num_Reader_U32 : S.fns id_num_Reader_U32 = some c_num_Reader_U32
  h_head64_Proto : S.fns id_head64_Proto = some c_head64_Proto
  h_sum_Of : S.fns id_sum_Of = some c_sum_Of
  h_fault_turn4 : S.fns id_fault_turn4 = some c_fault_turn4
  h_ip4_fault : S.fns id_ip4_fault = some c_ip4_fault
  h_ip4_Parse_1 : S.fns id_ip4_Parse_1 = some c_ip4_Parse_1
  h_ip4_why : S.fns id_ip4_why = some c_ip4_why
  h_ip6_fault : S.fns id_ip6_fault = some c_ip6_fault
  h_sum_big : S.fns id_sum_big = some c_sum_big
  h_icmpmap_To6 : S.fns id_icmpmap_To6 = some c_icmpmap_To6
  h_icmpmap_To4 : S.fns id_icmpmap_To4 = some c_icmpmap_To4
  h_interpreterref03_within : S.fns id_interpreterref03_within = some c_interpreterref03_within
  h_interpreterref02_Total : S.fns id_interpreterref02_Total = some c_interpreterref02_Total
  h_interpreterref02_Words : S.fns id_interpreterref02_Words = some c_interpreterref02_Words
  h_num_Big : S.fns id_num_Big = some c_num_Big
  h_ip4_big : S.fns id_ip4_big = some c_ip4_big
  h_interpreterref03_number : S.fns id_interpreterref03_number = some c_interpreterref03_number
  h_fault_ported : S.fns id_fault_ported = some c_fault_ported
  h_fault_echoed : S.fns id_fault_echoed = some c_fault_echoed
  h_interpreterref01_Reader_Number : S.fns id_interpreterref01_Reader_Number = some c_interpreterref01_Reader_Number
  h_ip6_extends : S.fns id_ip6_extends = some c_ip6_extends
  h_num_Reader_number : S.fns id_num_Reader_number = some c_num_Reader_number
  h_sum_fold : S.fns id_sum_fold = some c_sum_fold
  h_sum_add : S.fns id_sum_add = some c_sum_add
  h_ip4_byteful : S.fns id_ip4_byteful = some c_ip4_byteful
  h_icmpmap_sides : S.fns id_icmpmap_sides = some c_icmpmap_sides
  h_icmpmap_said : S.fns id_icmpmap_said = some c_icmpmap_said
  h_icmpmap_lost6 : S.fns id_icmpmap_lost6 = some c_icmpmap_lost6
  h_icmpmap_pointer6 : S.fns id_icmpmap_pointer6 = some c_icmpmap_pointer6
  h_icmpmap_lost4 : S.fns id_icmpmap_lost4 = some c_icmpmap_lost4
  h_icmpmap_pointer4 : S.fns id_icmpmap_pointer4 = some c_icmpmap_pointer4
  h_fault_update : S.fns id_fault_update = some c_fault_update
  h_interpreterref01_Reader_Text : S.fns id_interpreterref01_Reader_Text = some c_interpreterref01_Reader_Text
  h_num_Reader_Text : S.fns id_num_Reader_Text = some c_num_Reader_Text
  h_icmpmap_Plateau : S.fns id_icmpmap_Plateau = some c_icmpmap_Plateau
  h_sum_Update : S.fns id_sum_Update = some c_sum_Update
  h_sum_even : S.fns id_sum_even = some c_sum_even
  x_rep : HasRep S id_strings_Repeat
abbrev faultLV (c : Int) : LV := .ifc ty_ptr_num_Fault (.box (.agg [.int .i64 c, .int .i64 0]))
end Go.Ev

/- The system of this seat. -/
namespace Go.Ev
set_option maxRecDepth 100000
def table : List (Nat × MFn) := [
  (id_interpreterlaw15_FaultCut, c_interpreterlaw15_FaultCut),
  (id_interpreterlaw15_gram, c_interpreterlaw15_gram),
  (id_interpreterref03_Bytes, c_interpreterref03_Bytes),
  (id_fault_Own4, c_fault_Own4),
  (id_fault_Inside4, c_fault_Inside4),
  (id_interpreterlaw15_awake, c_interpreterlaw15_awake),
  (id_interpreterlaw15_same, c_interpreterlaw15_same),
  (id_fault_Quote6, c_fault_Quote6),
  (id_fault_Inside6, c_fault_Inside6),
  (id_fault_Quote4, c_fault_Quote4),
  (id_ip4_Parse, c_ip4_Parse),
  (id_sum_Pseudo6, c_sum_Pseudo6),
  (id_fault_Carry6, c_fault_Carry6),
  (id_icmp6_Failure, c_icmp6_Failure),
  (id_icmp4_Failure, c_icmp4_Failure),
  (id_fault_Carry4, c_fault_Carry4),
  (id_interpreterref03_Why, c_interpreterref03_Why),
  (id_interpreterref02_Of, c_interpreterref02_Of),
  (id_class_Martian4, c_class_Martian4),
  (id_fault_beginning, c_fault_beginning),
  (id_icmp4_Bytes, c_icmp4_Bytes),
  (id_ip4_Bytes, c_ip4_Bytes),
  (id_fault_fault, c_fault_fault),
  (id_sum_Right, c_sum_Right),
  (id_fault_Inside4_1, c_fault_Inside4_1),
  (id_fault_short, c_fault_short),
  (id_interpreterref03_Parse, c_interpreterref03_Parse),
  (id_head46_Proto, c_head46_Proto),
  (id_fault_within, c_fault_within),
  (id_fault_big, c_fault_big),
  (id_fault_turn6, c_fault_turn6),
  (id_ip6_Chain, c_ip6_Chain),
  (id_num_New, c_num_New),
  (id_num_Reader_U32, c_num_Reader_U32),
  (id_head64_Proto, c_head64_Proto),
  (id_sum_Of, c_sum_Of),
  (id_fault_turn4, c_fault_turn4),
  (id_ip4_fault, c_ip4_fault),
  (id_ip4_Parse_1, c_ip4_Parse_1),
  (id_ip4_why, c_ip4_why),
  (id_ip6_fault, c_ip6_fault),
  (id_sum_big, c_sum_big),
  (id_icmpmap_To6, c_icmpmap_To6),
  (id_icmpmap_To4, c_icmpmap_To4),
  (id_interpreterref03_within, c_interpreterref03_within),
  (id_interpreterref02_Total, c_interpreterref02_Total),
  (id_interpreterref02_Words, c_interpreterref02_Words),
  (id_num_Big, c_num_Big),
  (id_ip4_big, c_ip4_big),
  (id_interpreterref03_number, c_interpreterref03_number),
  (id_fault_ported, c_fault_ported),
  (id_fault_echoed, c_fault_echoed),
  (id_interpreterref01_Reader_Number, c_interpreterref01_Reader_Number),
  (id_ip6_extends, c_ip6_extends),
  (id_num_Reader_number, c_num_Reader_number),
  (id_sum_fold, c_sum_fold),
  (id_sum_add, c_sum_add),
  (id_ip4_byteful, c_ip4_byteful),
  (id_icmpmap_sides, c_icmpmap_sides),
  (id_icmpmap_said, c_icmpmap_said),
  (id_icmpmap_lost6, c_icmpmap_lost6),
  (id_icmpmap_pointer6, c_icmpmap_pointer6),
  (id_icmpmap_lost4, c_icmpmap_lost4),
  (id_icmpmap_pointer4, c_icmpmap_pointer4),
  (id_fault_update, c_fault_update),
  (id_interpreterref01_Reader_Text, c_interpreterref01_Reader_Text),
  (id_num_Reader_Text, c_num_Reader_Text),
  (id_icmpmap_Plateau, c_icmpmap_Plateau),
  (id_sum_Update, c_sum_Update),
  (id_sum_even, c_sum_even)]
def sys : Sys := { fns := fun f => (table.find? fun p => p.1 == f).map (·.2), ext := extR id_strings_Repeat }
theorem sysHas : Has sys where
  h_interpreterlaw15_FaultCut := by kernel_rfl
  h_interpreterlaw15_gram := by kernel_rfl
  h_interpreterref03_Bytes := by kernel_rfl
  h_fault_Own4 := by kernel_rfl
  h_fault_Inside4 := by kernel_rfl
  h_interpreterlaw15_awake := by kernel_rfl
  h_interpreterlaw15_same := by kernel_rfl
  h_fault_Quote6 := by kernel_rfl
  h_fault_Inside6 := by kernel_rfl
  h_fault_Quote4 := by kernel_rfl
  h_ip4_Parse := by kernel_rfl
  h_sum_Pseudo6 := by kernel_rfl
  h_fault_Carry6 := by kernel_rfl
  h_icmp6_Failure := by kernel_rfl
  h_icmp4_Failure := by kernel_rfl
  h_fault_Carry4 := by kernel_rfl
  h_interpreterref03_Why := by kernel_rfl
  h_interpreterref02_Of := by kernel_rfl
  h_class_Martian4 := by kernel_rfl
  h_fault_beginning := by kernel_rfl
  h_icmp4_Bytes := by kernel_rfl
  h_ip4_Bytes := by kernel_rfl
  h_fault_fault := by kernel_rfl
  h_sum_Right := by kernel_rfl
  h_fault_Inside4_1 := by kernel_rfl
  h_fault_short := by kernel_rfl
  h_interpreterref03_Parse := by kernel_rfl
  h_head46_Proto := by kernel_rfl
  h_fault_within := by kernel_rfl
  h_fault_big := by kernel_rfl
  h_fault_turn6 := by kernel_rfl
  h_ip6_Chain := by kernel_rfl
  h_num_New := by kernel_rfl
  h_num_Reader_U32 := by kernel_rfl
  h_head64_Proto := by kernel_rfl
  h_sum_Of := by kernel_rfl
  h_fault_turn4 := by kernel_rfl
  h_ip4_fault := by kernel_rfl
  h_ip4_Parse_1 := by kernel_rfl
  h_ip4_why := by kernel_rfl
  h_ip6_fault := by kernel_rfl
  h_sum_big := by kernel_rfl
  h_icmpmap_To6 := by kernel_rfl
  h_icmpmap_To4 := by kernel_rfl
  h_interpreterref03_within := by kernel_rfl
  h_interpreterref02_Total := by kernel_rfl
  h_interpreterref02_Words := by kernel_rfl
  h_num_Big := by kernel_rfl
  h_ip4_big := by kernel_rfl
  h_interpreterref03_number := by kernel_rfl
  h_fault_ported := by kernel_rfl
  h_fault_echoed := by kernel_rfl
  h_interpreterref01_Reader_Number := by kernel_rfl
  h_ip6_extends := by kernel_rfl
  h_num_Reader_number := by kernel_rfl
  h_sum_fold := by kernel_rfl
  h_sum_add := by kernel_rfl
  h_ip4_byteful := by kernel_rfl
  h_icmpmap_sides := by kernel_rfl
  h_icmpmap_said := by kernel_rfl
  h_icmpmap_lost6 := by kernel_rfl
  h_icmpmap_pointer6 := by kernel_rfl
  h_icmpmap_lost4 := by kernel_rfl
  h_icmpmap_pointer4 := by kernel_rfl
  h_fault_update := by kernel_rfl
  h_interpreterref01_Reader_Text := by kernel_rfl
  h_num_Reader_Text := by kernel_rfl
  h_icmpmap_Plateau := by kernel_rfl
  h_sum_Update := by kernel_rfl
  h_sum_even := by kernel_rfl
  x_rep := ⟨by kernel_rfl, rfl⟩
end Go.Ev
