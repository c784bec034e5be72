/- Part 9 of a proof: what the functions yield. It stands by itself; no condition. -/
import Derived.Test.YtbhaeahfgiiaiaaE5
import Derived.Test.YtbhaeahfgiiaiaaE8
import Derived.Test.YtbhaeahfgiiaiaaE2
import Derived.Test.YtbhaeahfgiiaiaaProg
/- The system is this program's. -/
namespace Go.Ev
open Go.Proofs
set_option maxRecDepth 100000
theorem comp_interpreterlaw13_Head64Does : compile Try.prog {} Try.f3 = some c_interpreterlaw13_Head64Does := by kernel_rfl
theorem comp_interpreterlaw13_Head64Blind : compile Try.prog {} Try.f4 = some c_interpreterlaw13_Head64Blind := by kernel_rfl
theorem comp_interpreterlaw12_Head46Known : compile Try.prog {} Try.f5 = some c_interpreterlaw12_Head46Known := by kernel_rfl
theorem comp_interpreterlaw12_Head46Does : compile Try.prog {} Try.f6 = some c_interpreterlaw12_Head46Does := by kernel_rfl
theorem comp_interpreterlaw13_Head64Again : compile Try.prog {} Try.f7 = some c_interpreterlaw13_Head64Again := by kernel_rfl
theorem comp_interpreterlaw13_Head64Proto : compile Try.prog {bx := [3]} Try.f8 = some c_interpreterlaw13_Head64Proto := by kernel_rfl
theorem comp_interpreterlaw12_Head46Blind : compile Try.prog {} Try.f9 = some c_interpreterlaw12_Head46Blind := by kernel_rfl
theorem comp_interpreterlaw13_Head64Known : compile Try.prog {} Try.f10 = some c_interpreterlaw13_Head64Known := by kernel_rfl
theorem comp_interpreterlaw12_Head46Goes : compile Try.prog {} Try.f11 = some c_interpreterlaw12_Head46Goes := by kernel_rfl
theorem comp_interpreterlaw13_Head64Goes : compile Try.prog {} Try.f12 = some c_interpreterlaw13_Head64Goes := by kernel_rfl
theorem comp_interpreterlaw13_awake : compile Try.prog {} Try.f13 = some c_interpreterlaw13_awake := by kernel_rfl
theorem comp_interpreterlaw13_Great : compile Try.prog {} Try.f14 = some c_interpreterlaw13_Great := by kernel_rfl
theorem comp_head64_Head : compile Try.prog {} Try.f15 = some c_head64_Head := by kernel_rfl
theorem comp_interpreterref13_Head : compile Try.prog {} Try.f16 = some c_interpreterref13_Head := by kernel_rfl
theorem comp_head64_Proto : compile Try.prog {} Try.f17 = some c_head64_Proto := by kernel_rfl
theorem comp_interpreterref13_Proto : compile Try.prog {} Try.f18 = some c_interpreterref13_Proto := by kernel_rfl
theorem comp_interpreterlaw13_same : compile Try.prog {} Try.f19 = some c_interpreterlaw13_same := by kernel_rfl
theorem comp_head64_Wants : compile Try.prog {} Try.f20 = some c_head64_Wants := by kernel_rfl
theorem comp_interpreterref13_Wants : compile Try.prog {} Try.f21 = some c_interpreterref13_Wants := by kernel_rfl
theorem comp_head46_Head : compile Try.prog {} Try.f22 = some c_head46_Head := by kernel_rfl
theorem comp_interpreterlaw12_awake : compile Try.prog {} Try.f23 = some c_interpreterlaw12_awake := by kernel_rfl
theorem comp_interpreterref04_Same : compile Try.prog {} Try.f24 = some c_interpreterref04_Same := by kernel_rfl
theorem comp_interpreterlaw12_same : compile Try.prog {} Try.f25 = some c_interpreterlaw12_same := by kernel_rfl
theorem comp_interpreterref12_Head : compile Try.prog {} Try.f26 = some c_interpreterref12_Head := by kernel_rfl
theorem comp_head46_Proto : compile Try.prog {} Try.f27 = some c_head46_Proto := by kernel_rfl
theorem comp_interpreterref12_Proto : compile Try.prog {} Try.f28 = some c_interpreterref12_Proto := by kernel_rfl
theorem comp_ip6_Bytes : compile Try.prog {} Try.f29 = some c_ip6_Bytes := by kernel_rfl
theorem comp_ip4_Parse : compile Try.prog {} Try.f31 = some c_ip4_Parse := by kernel_rfl
theorem comp_ip6_Parse : compile Try.prog {cw := [42, 109], cf := [41, 108]} Try.f32 = some c_ip6_Parse := by kernel_rfl
theorem comp_ip4_Bytes : compile Try.prog {} Try.f33 = some c_ip4_Bytes := by kernel_rfl
theorem comp_head64_why : compile Try.prog {} Try.f34 = some c_head64_why := by kernel_rfl
theorem comp_head64_fault : compile Try.prog {} Try.f35 = some c_head64_fault := by kernel_rfl
theorem comp_interpreterref04_Routed : compile Try.prog {} Try.f36 = some c_interpreterref04_Routed := by kernel_rfl
theorem comp_head46_fault : compile Try.prog {} Try.f37 = some c_head46_fault := by kernel_rfl
theorem comp_ip4_Routed : compile Try.prog {} Try.f38 = some c_ip4_Routed := by kernel_rfl
theorem comp_interpreterref03_Routed : compile Try.prog {} Try.f39 = some c_interpreterref03_Routed := by kernel_rfl
theorem comp_ip6_why : compile Try.prog {} Try.f40 = some c_ip6_why := by kernel_rfl
theorem comp_ip6_fault : compile Try.prog {} Try.f41 = some c_ip6_fault := by kernel_rfl
theorem comp_ip6_big : compile Try.prog {} Try.f42 = some c_ip6_big := by kernel_rfl
theorem comp_ip4_fault : compile Try.prog {} Try.f49 = some c_ip4_fault := by kernel_rfl
theorem comp_sum_Right : compile Try.prog {} Try.f50 = some c_sum_Right := by kernel_rfl
theorem comp_ip4_Parse_1 : compile Try.prog {} Try.f51 = some c_ip4_Parse_1 := by kernel_rfl
theorem comp_ip4_why : compile Try.prog {} Try.f52 = some c_ip4_why := by kernel_rfl
theorem comp_num_New : compile Try.prog {bx := [5]} Try.f53 = some c_num_New := by kernel_rfl
theorem comp_num_Reader_U32 : compile Try.prog {cw := [5]} Try.f54 = some c_num_Reader_U32 := by kernel_rfl
theorem comp_ip6_Chain : compile Try.prog {} Try.f55 = some c_ip6_Chain := by kernel_rfl
theorem comp_ip6_pieced : compile Try.prog {} Try.f56 = some c_ip6_pieced := by kernel_rfl
theorem comp_ip4_big : compile Try.prog {} Try.f57 = some c_ip4_big := by kernel_rfl
theorem comp_sum_Of : compile Try.prog {} Try.f58 = some c_sum_Of := by kernel_rfl
theorem comp_ip6_Routed : compile Try.prog {} Try.f59 = some c_ip6_Routed := by kernel_rfl
theorem comp_ip6_within : compile Try.prog {} Try.f60 = some c_ip6_within := by kernel_rfl
theorem comp_ip6_kinds : compile Try.prog {} Try.f61 = some c_ip6_kinds := by kernel_rfl
theorem comp_ip6_formed : compile Try.prog {} Try.f62 = some c_ip6_formed := by kernel_rfl
theorem comp_ip6_size : compile Try.prog {} Try.f63 = some c_ip6_size := by kernel_rfl
theorem comp_num_Big : compile Try.prog {} Try.f64 = some c_num_Big := by kernel_rfl
theorem comp_ip4_byteful : compile Try.prog {} Try.f70 = some c_ip4_byteful := by kernel_rfl
theorem comp_num_Reader_number : compile Try.prog {cw := [13]} Try.f71 = some c_num_Reader_number := by kernel_rfl
theorem comp_ip6_extends : compile Try.prog {} Try.f72 = some c_ip6_extends := by kernel_rfl
theorem comp_sum_fold : compile Try.prog {} Try.f73 = some c_sum_fold := by kernel_rfl
theorem comp_sum_add : compile Try.prog {} Try.f74 = some c_sum_add := by kernel_rfl
theorem comp_num_Reader_Text : compile Try.prog {} Try.f77 = some c_num_Reader_Text := by kernel_rfl
theorem rep_extra : Builder.Extra Try.prog Try.laysRepeat_ren where
  sizeBuilder := by kernel_rfl
  liesBuilder := by kernel_rfl
  t5 := Try.laysRepeat.t5
  a5 := Try.laysRepeat.a5
  z5 := Try.laysRepeat.z5
  v5 := Try.laysRepeat.v5
  infoByte := by kernel_rfl
  cellsByte := by kernel_rfl
  sizeByte := by kernel_rfl
  neB5 := by decide
theorem rep_id : Try.laysRepeat_ren.f 105 = id_strings_Repeat := by kernel_rfl
theorem rep_ok : CallOk Try.prog (extR id_strings_Repeat) :=
  extR_ok ⟨Try.f30, Try.func30, by kernel_rfl, of_decide_eq_true (by kernel_rfl)⟩ (fun s c w h1 h2 => by
    have := Any.strings_Repeat Try.laysRepeat rep_extra s c w h1 h2
    rwa [rep_id] at this)
theorem names_ok : ((table.map (·.1)).all fun i => ((Try.prog.funcs[i]?).map fun fn => fn.name != "runtime.NumGoroutine").getD false) = true := by kernel_rfl
theorem name_ok {i : Nat} {c : MFn} {fn : Func} (h : (i, c) ∈ table) (hf : Try.prog.funcs[i]? = some fn) : fn.name ≠ "runtime.NumGoroutine" := by
  have := List.all_eq_true.1 names_ok i (List.mem_map.2 ⟨(i, c), h, rfl⟩)
  rw [hf] at this
  simpa using this
theorem table_ok : ∀ p ∈ table, ∃ fn ann, Try.prog.funcs[p.1]? = some fn ∧ compile Try.prog ann fn = some p.2 := by
  unfold table
  simp only [List.forall_mem_cons]
  exact ⟨⟨Try.f3, _, Try.func3, comp_interpreterlaw13_Head64Does⟩, ⟨Try.f4, _, Try.func4, comp_interpreterlaw13_Head64Blind⟩, ⟨Try.f5, _, Try.func5, comp_interpreterlaw12_Head46Known⟩, ⟨Try.f6, _, Try.func6, comp_interpreterlaw12_Head46Does⟩, ⟨Try.f7, _, Try.func7, comp_interpreterlaw13_Head64Again⟩, ⟨Try.f8, _, Try.func8, comp_interpreterlaw13_Head64Proto⟩, ⟨Try.f9, _, Try.func9, comp_interpreterlaw12_Head46Blind⟩, ⟨Try.f10, _, Try.func10, comp_interpreterlaw13_Head64Known⟩, ⟨Try.f11, _, Try.func11, comp_interpreterlaw12_Head46Goes⟩, ⟨Try.f12, _, Try.func12, comp_interpreterlaw13_Head64Goes⟩, ⟨Try.f13, _, Try.func13, comp_interpreterlaw13_awake⟩, ⟨Try.f14, _, Try.func14, comp_interpreterlaw13_Great⟩, ⟨Try.f15, _, Try.func15, comp_head64_Head⟩, ⟨Try.f16, _, Try.func16, comp_interpreterref13_Head⟩, ⟨Try.f17, _, Try.func17, comp_head64_Proto⟩, ⟨Try.f18, _, Try.func18, comp_interpreterref13_Proto⟩, ⟨Try.f19, _, Try.func19, comp_interpreterlaw13_same⟩, ⟨Try.f20, _, Try.func20, comp_head64_Wants⟩, ⟨Try.f21, _, Try.func21, comp_interpreterref13_Wants⟩, ⟨Try.f22, _, Try.func22, comp_head46_Head⟩, ⟨Try.f23, _, Try.func23, comp_interpreterlaw12_awake⟩, ⟨Try.f24, _, Try.func24, comp_interpreterref04_Same⟩, ⟨Try.f25, _, Try.func25, comp_interpreterlaw12_same⟩, ⟨Try.f26, _, Try.func26, comp_interpreterref12_Head⟩, ⟨Try.f27, _, Try.func27, comp_head46_Proto⟩, ⟨Try.f28, _, Try.func28, comp_interpreterref12_Proto⟩, ⟨Try.f29, _, Try.func29, comp_ip6_Bytes⟩, ⟨Try.f31, _, Try.func31, comp_ip4_Parse⟩, ⟨Try.f32, _, Try.func32, comp_ip6_Parse⟩, ⟨Try.f33, _, Try.func33, comp_ip4_Bytes⟩, ⟨Try.f34, _, Try.func34, comp_head64_why⟩, ⟨Try.f35, _, Try.func35, comp_head64_fault⟩, ⟨Try.f36, _, Try.func36, comp_interpreterref04_Routed⟩, ⟨Try.f37, _, Try.func37, comp_head46_fault⟩, ⟨Try.f38, _, Try.func38, comp_ip4_Routed⟩, ⟨Try.f39, _, Try.func39, comp_interpreterref03_Routed⟩, ⟨Try.f40, _, Try.func40, comp_ip6_why⟩, ⟨Try.f41, _, Try.func41, comp_ip6_fault⟩, ⟨Try.f42, _, Try.func42, comp_ip6_big⟩, ⟨Try.f49, _, Try.func49, comp_ip4_fault⟩, ⟨Try.f50, _, Try.func50, comp_sum_Right⟩, ⟨Try.f51, _, Try.func51, comp_ip4_Parse_1⟩, ⟨Try.f52, _, Try.func52, comp_ip4_why⟩, ⟨Try.f53, _, Try.func53, comp_num_New⟩, ⟨Try.f54, _, Try.func54, comp_num_Reader_U32⟩, ⟨Try.f55, _, Try.func55, comp_ip6_Chain⟩, ⟨Try.f56, _, Try.func56, comp_ip6_pieced⟩, ⟨Try.f57, _, Try.func57, comp_ip4_big⟩, ⟨Try.f58, _, Try.func58, comp_sum_Of⟩, ⟨Try.f59, _, Try.func59, comp_ip6_Routed⟩, ⟨Try.f60, _, Try.func60, comp_ip6_within⟩, ⟨Try.f61, _, Try.func61, comp_ip6_kinds⟩, ⟨Try.f62, _, Try.func62, comp_ip6_formed⟩, ⟨Try.f63, _, Try.func63, comp_ip6_size⟩, ⟨Try.f64, _, Try.func64, comp_num_Big⟩, ⟨Try.f70, _, Try.func70, comp_ip4_byteful⟩, ⟨Try.f71, _, Try.func71, comp_num_Reader_number⟩, ⟨Try.f72, _, Try.func72, comp_ip6_extends⟩, ⟨Try.f73, _, Try.func73, comp_sum_fold⟩, ⟨Try.f74, _, Try.func74, comp_sum_add⟩, ⟨Try.f77, _, Try.func77, comp_num_Reader_Text⟩, by simp⟩
theorem sysOk : SysOk Try.prog sys where
  fns := fun f c h => by
    obtain ⟨⟨i, m⟩, h1, h2⟩ := Option.map_eq_some_iff.1 h
    have h3 := List.find?_some h1
    have h4 := List.mem_of_find?_eq_some h1
    simp only [beq_iff_eq] at h3
    subst h3
    have h2 : m = c := h2
    subst h2
    obtain ⟨fn, ann, k1, k2⟩ := table_ok _ h4
    exact ⟨fn, ann, k1, name_ok h4 k1, k2⟩
  ext := rep_ok
theorem mixed : Try.prog.follows .mixedOrders = true := by kernel_rfl
end Go.Ev
