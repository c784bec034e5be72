/- Part 5 of a proof: what the functions yield. It stands by itself; no condition. -/
import Derived.Test.YtbhaeahfgiiaiaaE4
import Derived.Test.YtbhaeahfgiiaiaaE2
import Derived.KernelRfl
/- Which functions are known. -/
namespace Go.Ev
structure Has (S : Sys) : Prop where
  h_interpreterlaw13_Head64Does : S.fns id_interpreterlaw13_Head64Does = some c_interpreterlaw13_Head64Does
  h_interpreterlaw13_Head64Blind : S.fns id_interpreterlaw13_Head64Blind = some c_interpreterlaw13_Head64Blind
  h_interpreterlaw12_Head46Known : S.fns id_interpreterlaw12_Head46Known = some c_interpreterlaw12_Head46Known
  h_interpreterlaw12_Head46Does : S.fns id_interpreterlaw12_Head46Does = some c_interpreterlaw12_Head46Does
  h_interpreterlaw13_Head64Again : S.fns id_interpreterlaw13_Head64Again = some c_interpreterlaw13_Head64Again
  h_interpreterlaw13_Head64Proto : S.fns id_interpreterlaw13_Head64Proto = some c_interpreterlaw13_Head64Proto
  h_interpreterlaw12_Head46Blind : S.fns id_interpreterlaw12_Head46Blind = some c_interpreterlaw12_Head46Blind
  h_interpreterlaw13_Head64Known : S.fns id_interpreterlaw13_Head64Known = some c_interpreterlaw13_Head64Known
  h_interpreterlaw12_Head46Goes : S.fns id_interpreterlaw12_Head46Goes = some c_interpreterlaw12_Head46Goes
  h_interpreterlaw13_Head64Goes : S.fns id_interpreterlaw13_Head64Goes = some c_interpreterlaw13_Head64Goes
  h_interpreterlaw13_awake : S.fns id_interpreterlaw13_awake = some c_interpreterlaw13_awake
  h_interpreterlaw13_Great : S.fns id_interpreterlaw13_Great = some c_interpreterlaw13_Great
  h_head64_Head : S.fns id_head64_Head = some c_head64_Head
  h_interpreterref13_Head : S.fns id_interpreterref13_Head = some c_interpreterref13_Head
  h_head64_Proto : S.fns id_head64_Proto = some c_head64_Proto
  h_interpreterref13_Proto : S.fns id_interpreterref13_Proto = some c_interpreterref13_Proto
  h_interpreterlaw13_same : S.fns id_interpreterlaw13_same = some c_interpreterlaw13_same
  h_head64_Wants : S.fns id_head64_Wants = some c_head64_Wants
  h_interpreterref13_Wants : S.fns id_interpreterref13_Wants = some c_interpreterref13_Wants
  h_head46_Head : S.fns id_head46_Head = some c_head46_Head
  h_interpreterlaw12_awake : S.fns id_interpreterlaw12_awake = some c_interpreterlaw12_awake
  h_interpreterref04_Same : S.fns id_interpreterref04_Same = some c_interpreterref04_Same
  h_interpreterlaw12_same : S.fns id_interpreterlaw12_same = some c_interpreterlaw12_same
  h_interpreterref12_Head : S.fns id_interpreterref12_Head = some c_interpreterref12_Head
  h_head46_Proto : S.fns id_head46_Proto = some c_head46_Proto
  h_interpreterref12_Proto : S.fns id_interpreterref12_Proto = some c_interpreterref12_Proto
  h_ip6_Bytes : S.fns id_ip6_Bytes = some c_ip6_Bytes
  h_ip4_Parse : S.fns id_ip4_Parse = some c_ip4_Parse
  h_ip6_Parse : S.fns id_ip6_Parse = some c_ip6_Parse
  h_ip4_Bytes : S.fns id_ip4_Bytes = some c_ip4_Bytes
  h_head64_why : S.fns id_head64_why = some c_head64_why
  h_head64_fault : S.fns id_head64_fault = some c_head64_fault
  h_interpreterref04_Routed : S.fns id_interpreterref04_Routed = some c_interpreterref04_Routed
  h_head46_fault : S.fns id_head46_fault = some c_head46_fault
  h_ip4_Routed : S.fns id_ip4_Routed = some c_ip4_Routed
  h_interpreterref03_Routed : S.fns id_interpreterref03_Routed = some c_interpreterref03_Routed
  h_ip6_why : S.fns id_ip6_why = some c_ip6_why
  h_ip6_fault : S.fns id_ip6_fault = some c_ip6_fault
  h_ip6_big : S.fns id_ip6_big = some c_ip6_big
  h_ip4_fault : S.fns id_ip4_fault = some c_ip4_fault
  h_sum_Right : S.fns id_sum_Right = some c_sum_Right
  h_ip4_Parse_1 : S.fns id_ip4_Parse_1 = some c_ip4_Parse_1
  h_ip4_why : S.fns id_ip4_why = some c_ip4_why
  h_num_New : S.fns id_num_New = some c_num_New
  h_num_Reader_U32 : S.fns id_num_Reader_U32 = some c_num_Reader_U32
  h_ip6_Chain : S.fns id_ip6_Chain = some c_ip6_Chain
  h_ip6_pieced : S.fns id_ip6_pieced = some c_ip6_pieced
  h_ip4_big : S.fns id_ip4_big = some c_ip4_big
  h_sum_Of : S.fns id_sum_Of = some c_sum_Of
  h_ip6_Routed : S.fns id_ip6_Routed = some c_ip6_Routed
  h_ip6_within : S.fns id_ip6_within = some c_ip6_within
  h_ip6_kinds : S.fns id_ip6_kinds = some c_ip6_kinds
  h_ip6_formed : S.fns id_ip6_formed = some c_ip6_formed
  h_ip6_size : S.fns id_ip6_size = some c_ip6_size
  h_num_Big : S.fns id_num_Big = some c_num_Big
  h_ip4_byteful : S.fns id_ip4_byteful = some c_ip4_byteful
  h_num_Reader_number : S.fns id_num_Reader_number = some c_num_Reader_number
  h_ip6_extends : S.fns id_ip6_extends = some c_ip6_extends
  h_sum_fold : S.fns id_sum_fold = some c_sum_fold
  h_sum_add : S.fns id_sum_add = some c_sum_add
  h_num_Reader_Text : S.fns id_num_Reader_Text = some c_num_Reader_Text
  x_rep : HasRep S id_strings_Repeat
abbrev faultLV (c : Int) : LV := .ifc ty_ptr_num_Fault (.box (.agg [.int .i64 c, .int .i64 0]))
end Go.Ev

/- The system of this seat. -/
namespace Go.Ev
set_option maxRecDepth 100000
def table : List (Nat × MFn) := [
  (id_interpreterlaw13_Head64Does, c_interpreterlaw13_Head64Does),
  (id_interpreterlaw13_Head64Blind, c_interpreterlaw13_Head64Blind),
  (id_interpreterlaw12_Head46Known, c_interpreterlaw12_Head46Known),
  (id_interpreterlaw12_Head46Does, c_interpreterlaw12_Head46Does),
  (id_interpreterlaw13_Head64Again, c_interpreterlaw13_Head64Again),
  (id_interpreterlaw13_Head64Proto, c_interpreterlaw13_Head64Proto),
  (id_interpreterlaw12_Head46Blind, c_interpreterlaw12_Head46Blind),
  (id_interpreterlaw13_Head64Known, c_interpreterlaw13_Head64Known),
  (id_interpreterlaw12_Head46Goes, c_interpreterlaw12_Head46Goes),
  (id_interpreterlaw13_Head64Goes, c_interpreterlaw13_Head64Goes),
  (id_interpreterlaw13_awake, c_interpreterlaw13_awake),
  (id_interpreterlaw13_Great, c_interpreterlaw13_Great),
  (id_head64_Head, c_head64_Head),
  (id_interpreterref13_Head, c_interpreterref13_Head),
  (id_head64_Proto, c_head64_Proto),
  (id_interpreterref13_Proto, c_interpreterref13_Proto),
  (id_interpreterlaw13_same, c_interpreterlaw13_same),
  (id_head64_Wants, c_head64_Wants),
  (id_interpreterref13_Wants, c_interpreterref13_Wants),
  (id_head46_Head, c_head46_Head),
  (id_interpreterlaw12_awake, c_interpreterlaw12_awake),
  (id_interpreterref04_Same, c_interpreterref04_Same),
  (id_interpreterlaw12_same, c_interpreterlaw12_same),
  (id_interpreterref12_Head, c_interpreterref12_Head),
  (id_head46_Proto, c_head46_Proto),
  (id_interpreterref12_Proto, c_interpreterref12_Proto),
  (id_ip6_Bytes, c_ip6_Bytes),
  (id_ip4_Parse, c_ip4_Parse),
  (id_ip6_Parse, c_ip6_Parse),
  (id_ip4_Bytes, c_ip4_Bytes),
  (id_head64_why, c_head64_why),
  (id_head64_fault, c_head64_fault),
  (id_interpreterref04_Routed, c_interpreterref04_Routed),
  (id_head46_fault, c_head46_fault),
  (id_ip4_Routed, c_ip4_Routed),
  (id_interpreterref03_Routed, c_interpreterref03_Routed),
  (id_ip6_why, c_ip6_why),
  (id_ip6_fault, c_ip6_fault),
  (id_ip6_big, c_ip6_big),
  (id_ip4_fault, c_ip4_fault),
  (id_sum_Right, c_sum_Right),
  (id_ip4_Parse_1, c_ip4_Parse_1),
  (id_ip4_why, c_ip4_why),
  (id_num_New, c_num_New),
  (id_num_Reader_U32, c_num_Reader_U32),
  (id_ip6_Chain, c_ip6_Chain),
  (id_ip6_pieced, c_ip6_pieced),
  (id_ip4_big, c_ip4_big),
  (id_sum_Of, c_sum_Of),
  (id_ip6_Routed, c_ip6_Routed),
  (id_ip6_within, c_ip6_within),
  (id_ip6_kinds, c_ip6_kinds),
  (id_ip6_formed, c_ip6_formed),
  (id_ip6_size, c_ip6_size),
  (id_num_Big, c_num_Big),
  (id_ip4_byteful, c_ip4_byteful),
  (id_num_Reader_number, c_num_Reader_number),
  (id_ip6_extends, c_ip6_extends),
  (id_sum_fold, c_sum_fold),
  (id_sum_add, c_sum_add),
  (id_num_Reader_Text, c_num_Reader_Text)]
def sys : Sys := { fns := fun f => (table.find? fun p => p.1 == f).map (·.2), ext := extR id_strings_Repeat }
theorem sysHas : Has sys where
  h_interpreterlaw13_Head64Does := by kernel_rfl
  h_interpreterlaw13_Head64Blind := by kernel_rfl
  h_interpreterlaw12_Head46Known := by kernel_rfl
  h_interpreterlaw12_Head46Does := by kernel_rfl
  h_interpreterlaw13_Head64Again := by kernel_rfl
  h_interpreterlaw13_Head64Proto := by kernel_rfl
  h_interpreterlaw12_Head46Blind := by kernel_rfl
  h_interpreterlaw13_Head64Known := by kernel_rfl
  h_interpreterlaw12_Head46Goes := by kernel_rfl
  h_interpreterlaw13_Head64Goes := by kernel_rfl
  h_interpreterlaw13_awake := by kernel_rfl
  h_interpreterlaw13_Great := by kernel_rfl
  h_head64_Head := by kernel_rfl
  h_interpreterref13_Head := by kernel_rfl
  h_head64_Proto := by kernel_rfl
  h_interpreterref13_Proto := by kernel_rfl
  h_interpreterlaw13_same := by kernel_rfl
  h_head64_Wants := by kernel_rfl
  h_interpreterref13_Wants := by kernel_rfl
  h_head46_Head := by kernel_rfl
  h_interpreterlaw12_awake := by kernel_rfl
  h_interpreterref04_Same := by kernel_rfl
  h_interpreterlaw12_same := by kernel_rfl
  h_interpreterref12_Head := by kernel_rfl
  h_head46_Proto := by kernel_rfl
  h_interpreterref12_Proto := by kernel_rfl
  h_ip6_Bytes := by kernel_rfl
  h_ip4_Parse := by kernel_rfl
  h_ip6_Parse := by kernel_rfl
  h_ip4_Bytes := by kernel_rfl
  h_head64_why := by kernel_rfl
  h_head64_fault := by kernel_rfl
  h_interpreterref04_Routed := by kernel_rfl
  h_head46_fault := by kernel_rfl
  h_ip4_Routed := by kernel_rfl
  h_interpreterref03_Routed := by kernel_rfl
  h_ip6_why := by kernel_rfl
  h_ip6_fault := by kernel_rfl
  h_ip6_big := by kernel_rfl
  h_ip4_fault := by kernel_rfl
  h_sum_Right := by kernel_rfl
  h_ip4_Parse_1 := by kernel_rfl
  h_ip4_why := by kernel_rfl
  h_num_New := by kernel_rfl
  h_num_Reader_U32 := by kernel_rfl
  h_ip6_Chain := by kernel_rfl
  h_ip6_pieced := by kernel_rfl
  h_ip4_big := by kernel_rfl
  h_sum_Of := by kernel_rfl
  h_ip6_Routed := by kernel_rfl
  h_ip6_within := by kernel_rfl
  h_ip6_kinds := by kernel_rfl
  h_ip6_formed := by kernel_rfl
  h_ip6_size := by kernel_rfl
  h_num_Big := by kernel_rfl
  h_ip4_byteful := by kernel_rfl
  h_num_Reader_number := by kernel_rfl
  h_ip6_extends := by kernel_rfl
  h_sum_fold := by kernel_rfl
  h_sum_add := by kernel_rfl
  h_num_Reader_Text := by kernel_rfl
  x_rep := ⟨by kernel_rfl, rfl⟩
end Go.Ev
