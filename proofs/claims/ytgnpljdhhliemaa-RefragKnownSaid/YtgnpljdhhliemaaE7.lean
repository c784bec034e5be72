/- Part 7 of a proof: what the functions yield. It stands by itself; no condition. -/
import Derived.Test.YtgnpljdhhliemaaE4
import Derived.Test.YtgnpljdhhliemaaE2
import Derived.Test.YtgnpljdhhliemaaProg
/- The system is this program's. -/
namespace Go.Ev
open Go.Proofs
set_option maxRecDepth 100000
theorem comp_interpreterlaw17_RefragFour : compile Try.prog {} Try.f3 = some c_interpreterlaw17_RefragFour := by kernel_rfl
theorem comp_interpreterlaw17_RefragSix : compile Try.prog {} Try.f4 = some c_interpreterlaw17_RefragSix := by kernel_rfl
theorem comp_interpreterlaw17_RefragAgain : compile Try.prog {} Try.f5 = some c_interpreterlaw17_RefragAgain := by kernel_rfl
theorem comp_interpreterlaw17_RefragKnown : compile Try.prog {} Try.f6 = some c_interpreterlaw17_RefragKnown := by kernel_rfl
theorem comp_interpreterlaw17_Great4 : compile Try.prog {} Try.f9 = some c_interpreterlaw17_Great4 := by kernel_rfl
theorem comp_interpreterlaw17_wakes : compile Try.prog {} Try.f10 = some c_interpreterlaw17_wakes := by kernel_rfl
theorem comp_refrag_Cut4 : compile Try.prog {nilT := [8]} Try.f11 = some c_refrag_Cut4 := by kernel_rfl
theorem comp_ip4_Bytes : compile Try.prog {} Try.f12 = some c_ip4_Bytes := by kernel_rfl
theorem comp_refrag_Len4 : compile Try.prog {} Try.f13 = some c_refrag_Len4 := by kernel_rfl
theorem comp_interpreterref17_Cut4 : compile Try.prog {nilT := [7]} Try.f14 = some c_interpreterref17_Cut4 := by kernel_rfl
theorem comp_interpreterref17_Head4 : compile Try.prog {} Try.f15 = some c_interpreterref17_Head4 := by kernel_rfl
theorem comp_interpreterlaw17_Great6 : compile Try.prog {} Try.f16 = some c_interpreterlaw17_Great6 := by kernel_rfl
theorem comp_refrag_Cut6 : compile Try.prog {bx := [3], nilT := [11]} Try.f17 = some c_refrag_Cut6 := by kernel_rfl
theorem comp_ip6_Bytes : compile Try.prog {} Try.f18 = some c_ip6_Bytes := by kernel_rfl
theorem comp_refrag_Len6 : compile Try.prog {} Try.f19 = some c_refrag_Len6 := by kernel_rfl
theorem comp_interpreterref17_Cut6 : compile Try.prog {nilT := [10]} Try.f20 = some c_interpreterref17_Cut6 := by kernel_rfl
theorem comp_interpreterref17_Head6 : compile Try.prog {} Try.f21 = some c_interpreterref17_Head6 := by kernel_rfl
theorem comp_interpreterlaw17_same6 : compile Try.prog {} Try.f22 = some c_interpreterlaw17_same6 := by kernel_rfl
theorem comp_interpreterlaw17_four : compile Try.prog {} Try.f23 = some c_interpreterlaw17_four := by kernel_rfl
theorem comp_interpreterlaw17_six : compile Try.prog {} Try.f24 = some c_interpreterlaw17_six := by kernel_rfl
theorem comp_ip4_Parse : compile Try.prog {} Try.f26 = some c_ip4_Parse := by kernel_rfl
theorem comp_ip6_Parse : compile Try.prog {cw := [42, 109], cf := [41, 108]} Try.f28 = some c_ip6_Parse := by kernel_rfl
theorem comp_refrag_pieces : compile Try.prog {nilT := [5]} Try.f29 = some c_refrag_pieces := by kernel_rfl
theorem comp_ip4_why : compile Try.prog {} Try.f30 = some c_ip4_why := by kernel_rfl
theorem comp_ip4_fault : compile Try.prog {} Try.f31 = some c_ip4_fault := by kernel_rfl
theorem comp_ip4_big : compile Try.prog {} Try.f32 = some c_ip4_big := by kernel_rfl
theorem comp_sum_Of : compile Try.prog {} Try.f33 = some c_sum_Of := by kernel_rfl
theorem comp_interpreterref17_Room : compile Try.prog {} Try.f34 = some c_interpreterref17_Room := by kernel_rfl
theorem comp_slices_Clone_api_Ext_api_Ext : compile Try.prog {} Try.f35 = some c_slices_Clone_api_Ext_api_Ext := by kernel_rfl
theorem comp_ip6_why : compile Try.prog {} Try.f36 = some c_ip6_why := by kernel_rfl
theorem comp_ip6_fault : compile Try.prog {} Try.f37 = some c_ip6_fault := by kernel_rfl
theorem comp_ip6_big : compile Try.prog {} Try.f38 = some c_ip6_big := by kernel_rfl
theorem comp_sum_Right : compile Try.prog {} Try.f39 = some c_sum_Right := by kernel_rfl
theorem comp_ip4_Parse_1 : compile Try.prog {} Try.f40 = some c_ip4_Parse_1 := by kernel_rfl
theorem comp_num_New : compile Try.prog {bx := [5]} Try.f49 = some c_num_New := by kernel_rfl
theorem comp_num_Reader_U32 : compile Try.prog {cw := [5]} Try.f50 = some c_num_Reader_U32 := by kernel_rfl
theorem comp_ip6_Chain : compile Try.prog {} Try.f51 = some c_ip6_Chain := by kernel_rfl
theorem comp_ip6_pieced : compile Try.prog {} Try.f52 = some c_ip6_pieced := by kernel_rfl
theorem comp_ip4_byteful : compile Try.prog {} Try.f53 = some c_ip4_byteful := by kernel_rfl
theorem comp_num_Big : compile Try.prog {} Try.f54 = some c_num_Big := by kernel_rfl
theorem comp_sum_fold : compile Try.prog {} Try.f55 = some c_sum_fold := by kernel_rfl
theorem comp_sum_add : compile Try.prog {} Try.f56 = some c_sum_add := by kernel_rfl
theorem comp_ip6_within : compile Try.prog {} Try.f57 = some c_ip6_within := by kernel_rfl
theorem comp_ip6_kinds : compile Try.prog {} Try.f58 = some c_ip6_kinds := by kernel_rfl
theorem comp_ip6_formed : compile Try.prog {} Try.f59 = some c_ip6_formed := by kernel_rfl
theorem comp_ip6_size : compile Try.prog {} Try.f60 = some c_ip6_size := by kernel_rfl
theorem comp_num_Reader_number : compile Try.prog {cw := [13]} Try.f69 = some c_num_Reader_number := by kernel_rfl
theorem comp_ip6_extends : compile Try.prog {} Try.f70 = some c_ip6_extends := by kernel_rfl
theorem comp_num_Reader_Text : compile Try.prog {} Try.f73 = some c_num_Reader_Text := by kernel_rfl
theorem names_ok : ((table.map (·.1)).all fun i => ((Try.prog.funcs[i]?).map fun fn => fn.name != "runtime.NumGoroutine").getD false) = true := by kernel_rfl
theorem name_ok {i : Nat} {c : MFn} {fn : Func} (h : (i, c) ∈ table) (hf : Try.prog.funcs[i]? = some fn) : fn.name ≠ "runtime.NumGoroutine" := by
  have := List.all_eq_true.1 names_ok i (List.mem_map.2 ⟨(i, c), h, rfl⟩)
  rw [hf] at this
  simpa using this
theorem table_ok : ∀ p ∈ table, ∃ fn ann, Try.prog.funcs[p.1]? = some fn ∧ compile Try.prog ann fn = some p.2 := by
  unfold table
  simp only [List.forall_mem_cons]
  exact ⟨⟨Try.f3, _, Try.func3, comp_interpreterlaw17_RefragFour⟩, ⟨Try.f4, _, Try.func4, comp_interpreterlaw17_RefragSix⟩, ⟨Try.f5, _, Try.func5, comp_interpreterlaw17_RefragAgain⟩, ⟨Try.f6, _, Try.func6, comp_interpreterlaw17_RefragKnown⟩, ⟨Try.f9, _, Try.func9, comp_interpreterlaw17_Great4⟩, ⟨Try.f10, _, Try.func10, comp_interpreterlaw17_wakes⟩, ⟨Try.f11, _, Try.func11, comp_refrag_Cut4⟩, ⟨Try.f12, _, Try.func12, comp_ip4_Bytes⟩, ⟨Try.f13, _, Try.func13, comp_refrag_Len4⟩, ⟨Try.f14, _, Try.func14, comp_interpreterref17_Cut4⟩, ⟨Try.f15, _, Try.func15, comp_interpreterref17_Head4⟩, ⟨Try.f16, _, Try.func16, comp_interpreterlaw17_Great6⟩, ⟨Try.f17, _, Try.func17, comp_refrag_Cut6⟩, ⟨Try.f18, _, Try.func18, comp_ip6_Bytes⟩, ⟨Try.f19, _, Try.func19, comp_refrag_Len6⟩, ⟨Try.f20, _, Try.func20, comp_interpreterref17_Cut6⟩, ⟨Try.f21, _, Try.func21, comp_interpreterref17_Head6⟩, ⟨Try.f22, _, Try.func22, comp_interpreterlaw17_same6⟩, ⟨Try.f23, _, Try.func23, comp_interpreterlaw17_four⟩, ⟨Try.f24, _, Try.func24, comp_interpreterlaw17_six⟩, ⟨Try.f26, _, Try.func26, comp_ip4_Parse⟩, ⟨Try.f28, _, Try.func28, comp_ip6_Parse⟩, ⟨Try.f29, _, Try.func29, comp_refrag_pieces⟩, ⟨Try.f30, _, Try.func30, comp_ip4_why⟩, ⟨Try.f31, _, Try.func31, comp_ip4_fault⟩, ⟨Try.f32, _, Try.func32, comp_ip4_big⟩, ⟨Try.f33, _, Try.func33, comp_sum_Of⟩, ⟨Try.f34, _, Try.func34, comp_interpreterref17_Room⟩, ⟨Try.f35, _, Try.func35, comp_slices_Clone_api_Ext_api_Ext⟩, ⟨Try.f36, _, Try.func36, comp_ip6_why⟩, ⟨Try.f37, _, Try.func37, comp_ip6_fault⟩, ⟨Try.f38, _, Try.func38, comp_ip6_big⟩, ⟨Try.f39, _, Try.func39, comp_sum_Right⟩, ⟨Try.f40, _, Try.func40, comp_ip4_Parse_1⟩, ⟨Try.f49, _, Try.func49, comp_num_New⟩, ⟨Try.f50, _, Try.func50, comp_num_Reader_U32⟩, ⟨Try.f51, _, Try.func51, comp_ip6_Chain⟩, ⟨Try.f52, _, Try.func52, comp_ip6_pieced⟩, ⟨Try.f53, _, Try.func53, comp_ip4_byteful⟩, ⟨Try.f54, _, Try.func54, comp_num_Big⟩, ⟨Try.f55, _, Try.func55, comp_sum_fold⟩, ⟨Try.f56, _, Try.func56, comp_sum_add⟩, ⟨Try.f57, _, Try.func57, comp_ip6_within⟩, ⟨Try.f58, _, Try.func58, comp_ip6_kinds⟩, ⟨Try.f59, _, Try.func59, comp_ip6_formed⟩, ⟨Try.f60, _, Try.func60, comp_ip6_size⟩, ⟨Try.f69, _, Try.func69, comp_num_Reader_number⟩, ⟨Try.f70, _, Try.func70, comp_ip6_extends⟩, ⟨Try.f73, _, Try.func73, comp_num_Reader_Text⟩, by simp⟩
theorem sysOk : SysOk Try.prog sys where
  fns := fun f c h => by
    obtain ⟨⟨i, m⟩, h1, h2⟩ := Option.map_eq_some_iff.1 h
    have h3 := List.find?_some h1
    have h4 := List.mem_of_find?_eq_some h1
    simp only [beq_iff_eq] at h3
    subst h3
    have h2 : m = c := h2
    subst h2
    obtain ⟨fn, ann, k1, k2⟩ := table_ok _ h4
    exact ⟨fn, ann, k1, name_ok h4 k1, k2⟩
  ext := fun f l h r he => by cases he
theorem mixed : Try.prog.follows .mixedOrders = true := by kernel_rfl
end Go.Ev
