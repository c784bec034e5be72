/- Part 8 of a proof: what the functions yield. It stands by itself; no condition. -/
import Derived.Test.YtdoodlfmmjglcaaE4
import Derived.Test.YtdoodlfmmjglcaaE2
import Derived.Test.YtdoodlfmmjglcaaProg
namespace Go.Ev
open Go.Proofs
set_option maxRecDepth 100000
theorem comp_interpreterlaw17_RefragJoinsSix : compile Try.prog {bx := [4], hc := [46, 145]} Try.f4 = some c_interpreterlaw17_RefragJoinsSix := by kernel_rfl
theorem comp_interpreterlaw17_Great4 : compile Try.prog {} Try.f5 = some c_interpreterlaw17_Great4 := by kernel_rfl
theorem comp_interpreterlaw17_wakes : compile Try.prog {} Try.f6 = some c_interpreterlaw17_wakes := by kernel_rfl
theorem comp_refrag_Cut4 : compile Try.prog {nilT := [8]} Try.f7 = some c_refrag_Cut4 := by kernel_rfl
theorem comp_frag_New : compile Try.prog {hs := [25, 1000000, 22, 1000001, 23, 1000002]} Try.f8 = some c_frag_New := by kernel_rfl
theorem comp_ip4_Bytes : compile Try.prog {} Try.f9 = some c_ip4_Bytes := by kernel_rfl
theorem comp_frag_Store_Put : compile Try.prog {hc := [13, 46, 53, 59, 126, 108, 119]} Try.f11 = some c_frag_Store_Put := by kernel_rfl
theorem comp_interpreterlaw17_Great6 : compile Try.prog {} Try.f12 = some c_interpreterlaw17_Great6 := by kernel_rfl
theorem comp_refrag_Cut6 : compile Try.prog {bx := [3], nilT := [11]} Try.f13 = some c_refrag_Cut6 := by kernel_rfl
theorem comp_ip6_Bytes : compile Try.prog {} Try.f14 = some c_ip6_Bytes := by kernel_rfl
theorem comp_ip6_Parse : compile Try.prog {cw := [42, 109], cf := [41, 108]} Try.f15 = some c_ip6_Parse := by kernel_rfl
theorem comp_interpreterlaw17_same6 : compile Try.prog {} Try.f16 = some c_interpreterlaw17_same6 := by kernel_rfl
theorem comp_interpreterlaw17_four : compile Try.prog {} Try.f17 = some c_interpreterlaw17_four := by kernel_rfl
theorem comp_interpreterlaw17_six : compile Try.prog {} Try.f18 = some c_interpreterlaw17_six := by kernel_rfl
theorem comp_refrag_Len4 : compile Try.prog {} Try.f19 = some c_refrag_Len4 := by kernel_rfl
theorem comp_refrag_pieces : compile Try.prog {nilT := [5]} Try.f20 = some c_refrag_pieces := by kernel_rfl
theorem comp_ip4_why : compile Try.prog {} Try.f21 = some c_ip4_why := by kernel_rfl
theorem comp_ip4_fault : compile Try.prog {} Try.f22 = some c_ip4_fault := by kernel_rfl
theorem comp_ip4_big : compile Try.prog {} Try.f23 = some c_ip4_big := by kernel_rfl
theorem comp_sum_Of : compile Try.prog {} Try.f24 = some c_sum_Of := by kernel_rfl
theorem comp_frag_Store_none : compile Try.prog {} Try.f27 = some c_frag_Store_none := by kernel_rfl
theorem comp_frag_Right : compile Try.prog {} Try.f28 = some c_frag_Right := by kernel_rfl
theorem comp_slices_ContainsFunc_frag_Piece_frag_Piece : compile Try.prog {hc := [7]} Try.f29 = some c_slices_ContainsFunc_frag_Piece_frag_Piece := by kernel_rfl
theorem comp_frag_Piece_same : compile Try.prog {} Try.f30 = some c_frag_Piece_same := by kernel_rfl
theorem comp_frag_datagram_fits : compile Try.prog {hc := [29]} Try.f31 = some c_frag_datagram_fits := by kernel_rfl
theorem comp_frag_Store_cut : compile Try.prog {} Try.f32 = some c_frag_Store_cut := by kernel_rfl
theorem comp_frag_Store_takes : compile Try.prog {hs := [33, 1000003, 48, 1000004]} Try.f33 = some c_frag_Store_takes := by kernel_rfl
theorem comp_frag_datagram_whole : compile Try.prog {hr := [22], hc := [28]} Try.f34 = some c_frag_datagram_whole := by kernel_rfl
theorem comp_refrag_Len6 : compile Try.prog {} Try.f35 = some c_refrag_Len6 := by kernel_rfl
theorem comp_slices_Clone_api_Ext_api_Ext : compile Try.prog {} Try.f36 = some c_slices_Clone_api_Ext_api_Ext := by kernel_rfl
theorem comp_ip6_why : compile Try.prog {} Try.f37 = some c_ip6_why := by kernel_rfl
theorem comp_ip6_fault : compile Try.prog {} Try.f38 = some c_ip6_fault := by kernel_rfl
theorem comp_ip6_big : compile Try.prog {} Try.f39 = some c_ip6_big := by kernel_rfl
theorem comp_num_New : compile Try.prog {bx := [5]} Try.f40 = some c_num_New := by kernel_rfl
theorem comp_num_Reader_U32 : compile Try.prog {cw := [5]} Try.f41 = some c_num_Reader_U32 := by kernel_rfl
theorem comp_ip6_Chain : compile Try.prog {} Try.f42 = some c_ip6_Chain := by kernel_rfl
theorem comp_ip6_pieced : compile Try.prog {} Try.f43 = some c_ip6_pieced := by kernel_rfl
theorem comp_ip4_byteful : compile Try.prog {} Try.f44 = some c_ip4_byteful := by kernel_rfl
theorem comp_num_Big : compile Try.prog {} Try.f45 = some c_num_Big := by kernel_rfl
theorem comp_sum_fold : compile Try.prog {} Try.f46 = some c_sum_fold := by kernel_rfl
theorem comp_sum_add : compile Try.prog {} Try.f47 = some c_sum_add := by kernel_rfl
theorem comp_slices_IndexFunc_frag_Piece_frag_Piece : compile Try.prog {} Try.f48 = some c_slices_IndexFunc_frag_Piece_frag_Piece := by kernel_rfl
theorem comp_frag_Piece_to : compile Try.prog {} Try.f49 = some c_frag_Piece_to := by kernel_rfl
theorem comp_frag_datagram_fits_1 : compile Try.prog {} Try.f50 = some c_frag_datagram_fits_1 := by kernel_rfl
theorem comp_frag_datagram_head : compile Try.prog {} Try.f51 = some c_frag_datagram_head := by kernel_rfl
theorem comp_slices_SortStableFunc_frag_Piece_frag_Piece : compile Try.prog {hc := [8]} Try.f52 = some c_slices_SortStableFunc_frag_Piece_frag_Piece := by kernel_rfl
theorem comp_frag_datagram_whole_1 : compile Try.prog {} Try.f53 = some c_frag_datagram_whole_1 := by kernel_rfl
theorem comp_cmp_Or_int : compile Try.prog {} Try.f54 = some c_cmp_Or_int := by kernel_rfl
theorem comp_cmp_Compare_int : compile Try.prog {} Try.f55 = some c_cmp_Compare_int := by kernel_rfl
theorem comp_ip6_within : compile Try.prog {} Try.f56 = some c_ip6_within := by kernel_rfl
theorem comp_ip6_kinds : compile Try.prog {} Try.f57 = some c_ip6_kinds := by kernel_rfl
theorem comp_ip6_formed : compile Try.prog {} Try.f58 = some c_ip6_formed := by kernel_rfl
theorem comp_ip6_size : compile Try.prog {} Try.f59 = some c_ip6_size := by kernel_rfl
theorem comp_num_Reader_number : compile Try.prog {cw := [13]} Try.f60 = some c_num_Reader_number := by kernel_rfl
theorem comp_ip6_extends : compile Try.prog {} Try.f61 = some c_ip6_extends := by kernel_rfl
theorem comp_slices_stableCmpFunc_frag_Piece : compile Try.prog {hc := [18, 27, 43, 60]} Try.f62 = some c_slices_stableCmpFunc_frag_Piece := by kernel_rfl
theorem comp_cmp_isNaN_int : compile Try.prog {} Try.f63 = some c_cmp_isNaN_int := by kernel_rfl
theorem comp_num_Reader_Text : compile Try.prog {} Try.f64 = some c_num_Reader_Text := by kernel_rfl
theorem comp_slices_insertionSortCmpFunc_frag_Piece : compile Try.prog {} Try.f65 = some c_slices_insertionSortCmpFunc_frag_Piece := by kernel_rfl
theorem comp_slices_symMergeCmpFunc_frag_Piece : compile Try.prog {hc := [191, 205, 219]} Try.f66 = some c_slices_symMergeCmpFunc_frag_Piece := by kernel_rfl
theorem comp_slices_rotateCmpFunc_frag_Piece : compile Try.prog {hc := [31, 46, 57]} Try.f67 = some c_slices_rotateCmpFunc_frag_Piece := by kernel_rfl
theorem comp_slices_swapRangeCmpFunc_frag_Piece : compile Try.prog {} Try.f68 = some c_slices_swapRangeCmpFunc_frag_Piece := by kernel_rfl
theorem names_ok : ((table.map (·.1)).all fun i => ((Try.prog.funcs[i]?).map fun fn => fn.name != "runtime.NumGoroutine").getD false) = true := by kernel_rfl
theorem name_ok {i : Nat} {c : MFn} {fn : Func} (h : (i, c) ∈ table) (hf : Try.prog.funcs[i]? = some fn) : fn.name ≠ "runtime.NumGoroutine" := by
  have := List.all_eq_true.1 names_ok i (List.mem_map.2 ⟨(i, c), h, rfl⟩)
  rw [hf] at this
  simpa using this
theorem table_ok : ∀ p ∈ table, ∃ fn ann, Try.prog.funcs[p.1]? = some fn ∧ compile Try.prog ann fn = some p.2 := by
  unfold table
  simp only [List.forall_mem_cons]
  exact ⟨⟨Try.f4, _, Try.func4, comp_interpreterlaw17_RefragJoinsSix⟩, ⟨Try.f5, _, Try.func5, comp_interpreterlaw17_Great4⟩, ⟨Try.f6, _, Try.func6, comp_interpreterlaw17_wakes⟩, ⟨Try.f7, _, Try.func7, comp_refrag_Cut4⟩, ⟨Try.f8, _, Try.func8, comp_frag_New⟩, ⟨Try.f9, _, Try.func9, comp_ip4_Bytes⟩, ⟨Try.f11, _, Try.func11, comp_frag_Store_Put⟩, ⟨Try.f12, _, Try.func12, comp_interpreterlaw17_Great6⟩, ⟨Try.f13, _, Try.func13, comp_refrag_Cut6⟩, ⟨Try.f14, _, Try.func14, comp_ip6_Bytes⟩, ⟨Try.f15, _, Try.func15, comp_ip6_Parse⟩, ⟨Try.f16, _, Try.func16, comp_interpreterlaw17_same6⟩, ⟨Try.f17, _, Try.func17, comp_interpreterlaw17_four⟩, ⟨Try.f18, _, Try.func18, comp_interpreterlaw17_six⟩, ⟨Try.f19, _, Try.func19, comp_refrag_Len4⟩, ⟨Try.f20, _, Try.func20, comp_refrag_pieces⟩, ⟨Try.f21, _, Try.func21, comp_ip4_why⟩, ⟨Try.f22, _, Try.func22, comp_ip4_fault⟩, ⟨Try.f23, _, Try.func23, comp_ip4_big⟩, ⟨Try.f24, _, Try.func24, comp_sum_Of⟩, ⟨Try.f27, _, Try.func27, comp_frag_Store_none⟩, ⟨Try.f28, _, Try.func28, comp_frag_Right⟩, ⟨Try.f29, _, Try.func29, comp_slices_ContainsFunc_frag_Piece_frag_Piece⟩, ⟨Try.f30, _, Try.func30, comp_frag_Piece_same⟩, ⟨Try.f31, _, Try.func31, comp_frag_datagram_fits⟩, ⟨Try.f32, _, Try.func32, comp_frag_Store_cut⟩, ⟨Try.f33, _, Try.func33, comp_frag_Store_takes⟩, ⟨Try.f34, _, Try.func34, comp_frag_datagram_whole⟩, ⟨Try.f35, _, Try.func35, comp_refrag_Len6⟩, ⟨Try.f36, _, Try.func36, comp_slices_Clone_api_Ext_api_Ext⟩, ⟨Try.f37, _, Try.func37, comp_ip6_why⟩, ⟨Try.f38, _, Try.func38, comp_ip6_fault⟩, ⟨Try.f39, _, Try.func39, comp_ip6_big⟩, ⟨Try.f40, _, Try.func40, comp_num_New⟩, ⟨Try.f41, _, Try.func41, comp_num_Reader_U32⟩, ⟨Try.f42, _, Try.func42, comp_ip6_Chain⟩, ⟨Try.f43, _, Try.func43, comp_ip6_pieced⟩, ⟨Try.f44, _, Try.func44, comp_ip4_byteful⟩, ⟨Try.f45, _, Try.func45, comp_num_Big⟩, ⟨Try.f46, _, Try.func46, comp_sum_fold⟩, ⟨Try.f47, _, Try.func47, comp_sum_add⟩, ⟨Try.f48, _, Try.func48, comp_slices_IndexFunc_frag_Piece_frag_Piece⟩, ⟨Try.f49, _, Try.func49, comp_frag_Piece_to⟩, ⟨Try.f50, _, Try.func50, comp_frag_datagram_fits_1⟩, ⟨Try.f51, _, Try.func51, comp_frag_datagram_head⟩, ⟨Try.f52, _, Try.func52, comp_slices_SortStableFunc_frag_Piece_frag_Piece⟩, ⟨Try.f53, _, Try.func53, comp_frag_datagram_whole_1⟩, ⟨Try.f54, _, Try.func54, comp_cmp_Or_int⟩, ⟨Try.f55, _, Try.func55, comp_cmp_Compare_int⟩, ⟨Try.f56, _, Try.func56, comp_ip6_within⟩, ⟨Try.f57, _, Try.func57, comp_ip6_kinds⟩, ⟨Try.f58, _, Try.func58, comp_ip6_formed⟩, ⟨Try.f59, _, Try.func59, comp_ip6_size⟩, ⟨Try.f60, _, Try.func60, comp_num_Reader_number⟩, ⟨Try.f61, _, Try.func61, comp_ip6_extends⟩, ⟨Try.f62, _, Try.func62, comp_slices_stableCmpFunc_frag_Piece⟩, ⟨Try.f63, _, Try.func63, comp_cmp_isNaN_int⟩, ⟨Try.f64, _, Try.func64, comp_num_Reader_Text⟩, ⟨Try.f65, _, Try.func65, comp_slices_insertionSortCmpFunc_frag_Piece⟩, ⟨Try.f66, _, Try.func66, comp_slices_symMergeCmpFunc_frag_Piece⟩, ⟨Try.f67, _, Try.func67, comp_slices_rotateCmpFunc_frag_Piece⟩, ⟨Try.f68, _, Try.func68, comp_slices_swapRangeCmpFunc_frag_Piece⟩, by simp⟩
theorem sysOk : SysOk Try.prog sys where
  fns := fun f c h => by
    obtain ⟨⟨i, m⟩, h1, h2⟩ := Option.map_eq_some_iff.1 h
    have h3 := List.find?_some h1
    have h4 := List.mem_of_find?_eq_some h1
    simp only [beq_iff_eq] at h3
    subst h3
    have h2 : m = c := h2
    subst h2
    obtain ⟨fn, ann, k1, k2⟩ := table_ok _ h4
    exact ⟨fn, ann, k1, name_ok h4 k1, k2⟩
  ext := fun f l h r he => by cases he
theorem mixed : Try.prog.follows .mixedOrders = true := by kernel_rfl
end Go.Ev
