/- Part 9 of a proof: what the functions yield. It stands by itself; no condition. -/
import Derived.Test.YtgellbiecjifbaaGreatE4
import Derived.Test.YtgellbiecjifbaaGreatE8
import Derived.Test.YtgellbiecjifbaaGreatE2
import Derived.Test.YtgellbiecjifbaaGreatProg
namespace Go.Ev
open Go.Proofs
set_option maxRecDepth 100000
theorem comp_interpreterlaw15_FaultCarries : compile Tryz.prog {} Tryz.f3 = some c_interpreterlaw15_FaultCarries := by kernel_rfl
theorem comp_interpreterlaw15_awake : compile Tryz.prog {} Tryz.f4 = some c_interpreterlaw15_awake := by kernel_rfl
theorem comp_fault_Carry6 : compile Tryz.prog {} Tryz.f5 = some c_fault_Carry6 := by kernel_rfl
theorem comp_interpreterref15_Carry6 : compile Tryz.prog {} Tryz.f6 = some c_interpreterref15_Carry6 := by kernel_rfl
theorem comp_fault_Carry4 : compile Tryz.prog {} Tryz.f7 = some c_fault_Carry4 := by kernel_rfl
theorem comp_interpreterref15_Carry4 : compile Tryz.prog {} Tryz.f8 = some c_interpreterref15_Carry4 := by kernel_rfl
theorem comp_interpreterref03_Bytes : compile Tryz.prog {bytesM := [70]} Tryz.f9 = some c_interpreterref03_Bytes := by kernel_rfl
theorem comp_interpreterlaw15_gram : compile Tryz.prog {} Tryz.f10 = some c_interpreterlaw15_gram := by kernel_rfl
theorem comp_fault_Own4 : compile Tryz.prog {bx := [5]} Tryz.f11 = some c_fault_Own4 := by kernel_rfl
theorem comp_interpreterref03_Parse : compile Tryz.prog {} Tryz.f12 = some c_interpreterref03_Parse := by kernel_rfl
theorem comp_fault_Inside4 : compile Tryz.prog {} Tryz.f13 = some c_fault_Inside4 := by kernel_rfl
theorem comp_fault_Quote6 : compile Tryz.prog {} Tryz.f14 = some c_fault_Quote6 := by kernel_rfl
theorem comp_icmp4_Failure : compile Tryz.prog {} Tryz.f15 = some c_icmp4_Failure := by kernel_rfl
theorem comp_icmpmap_To6 : compile Tryz.prog {} Tryz.f16 = some c_icmpmap_To6 := by kernel_rfl
theorem comp_interpreterref15_Inside4 : compile Tryz.prog {} Tryz.f17 = some c_interpreterref15_Inside4 := by kernel_rfl
theorem comp_interpreterref07_Failure : compile Tryz.prog {} Tryz.f18 = some c_interpreterref07_Failure := by kernel_rfl
theorem comp_interpreterref15_Quote6 : compile Tryz.prog {} Tryz.f19 = some c_interpreterref15_Quote6 := by kernel_rfl
theorem comp_interpreterref14_To6 : compile Tryz.prog {} Tryz.f20 = some c_interpreterref14_To6 := by kernel_rfl
theorem comp_fault_Inside6 : compile Tryz.prog {cw := [59, 103], cf := [58, 102]} Tryz.f21 = some c_fault_Inside6 := by kernel_rfl
theorem comp_icmp6_Failure : compile Tryz.prog {} Tryz.f22 = some c_icmp6_Failure := by kernel_rfl
theorem comp_icmpmap_To4 : compile Tryz.prog {} Tryz.f23 = some c_icmpmap_To4 := by kernel_rfl
theorem comp_fault_Quote4 : compile Tryz.prog {} Tryz.f24 = some c_fault_Quote4 := by kernel_rfl
theorem comp_interpreterref15_Inside6 : compile Tryz.prog {} Tryz.f25 = some c_interpreterref15_Inside6 := by kernel_rfl
theorem comp_interpreterref08_Failure : compile Tryz.prog {} Tryz.f26 = some c_interpreterref08_Failure := by kernel_rfl
theorem comp_interpreterref15_Quote4 : compile Tryz.prog {} Tryz.f27 = some c_interpreterref15_Quote4 := by kernel_rfl
theorem comp_interpreterref14_To4 : compile Tryz.prog {} Tryz.f28 = some c_interpreterref14_To4 := by kernel_rfl
theorem comp_interpreterref03_Why : compile Tryz.prog {} Tryz.f29 = some c_interpreterref03_Why := by kernel_rfl
theorem comp_interpreterref02_Of : compile Tryz.prog {} Tryz.f30 = some c_interpreterref02_Of := by kernel_rfl
theorem comp_ip4_Parse : compile Tryz.prog {} Tryz.f32 = some c_ip4_Parse := by kernel_rfl
theorem comp_class_Martian4 : compile Tryz.prog {} Tryz.f33 = some c_class_Martian4 := by kernel_rfl
theorem comp_fault_beginning : compile Tryz.prog {} Tryz.f34 = some c_fault_beginning := by kernel_rfl
theorem comp_icmp4_Bytes : compile Tryz.prog {} Tryz.f35 = some c_icmp4_Bytes := by kernel_rfl
theorem comp_ip4_Bytes : compile Tryz.prog {} Tryz.f36 = some c_ip4_Bytes := by kernel_rfl
theorem comp_interpreterref03_number : compile Tryz.prog {bx := [11], cw := [14]} Tryz.f37 = some c_interpreterref03_number := by kernel_rfl
theorem comp_fault_fault : compile Tryz.prog {} Tryz.f38 = some c_fault_fault := by kernel_rfl
theorem comp_sum_Right : compile Tryz.prog {} Tryz.f39 = some c_sum_Right := by kernel_rfl
theorem comp_fault_Inside4_1 : compile Tryz.prog {} Tryz.f40 = some c_fault_Inside4_1 := by kernel_rfl
theorem comp_fault_short : compile Tryz.prog {} Tryz.f41 = some c_fault_short := by kernel_rfl
theorem comp_head46_Proto : compile Tryz.prog {} Tryz.f42 = some c_head46_Proto := by kernel_rfl
theorem comp_fault_within : compile Tryz.prog {} Tryz.f43 = some c_fault_within := by kernel_rfl
theorem comp_fault_big : compile Tryz.prog {} Tryz.f44 = some c_fault_big := by kernel_rfl
theorem comp_fault_turn6 : compile Tryz.prog {} Tryz.f45 = some c_fault_turn6 := by kernel_rfl
theorem comp_icmpmap_sides : compile Tryz.prog {} Tryz.f46 = some c_icmpmap_sides := by kernel_rfl
theorem comp_icmpmap_said : compile Tryz.prog {} Tryz.f47 = some c_icmpmap_said := by kernel_rfl
theorem comp_icmpmap_lost6 : compile Tryz.prog {} Tryz.f48 = some c_icmpmap_lost6 := by kernel_rfl
theorem comp_icmpmap_pointer6 : compile Tryz.prog {} Tryz.f49 = some c_icmpmap_pointer6 := by kernel_rfl
theorem comp_interpreterref15_number : compile Tryz.prog {bx := [13], cw := [17]} Tryz.f50 = some c_interpreterref15_number := by kernel_rfl
theorem comp_interpreterref15_little : compile Tryz.prog {} Tryz.f51 = some c_interpreterref15_little := by kernel_rfl
theorem comp_interpreterref15_bound : compile Tryz.prog {} Tryz.f52 = some c_interpreterref15_bound := by kernel_rfl
theorem comp_interpreterref12_Proto : compile Tryz.prog {} Tryz.f53 = some c_interpreterref12_Proto := by kernel_rfl
theorem comp_interpreterref15_turn : compile Tryz.prog {} Tryz.f54 = some c_interpreterref15_turn := by kernel_rfl
theorem comp_interpreterref02_Pseudo6 : compile Tryz.prog {} Tryz.f55 = some c_interpreterref02_Pseudo6 := by kernel_rfl
theorem comp_interpreterref15_put : compile Tryz.prog {} Tryz.f56 = some c_interpreterref15_put := by kernel_rfl
theorem comp_interpreterref14_bounds : compile Tryz.prog {} Tryz.f57 = some c_interpreterref14_bounds := by kernel_rfl
theorem comp_interpreterref14_Plateau : compile Tryz.prog {} Tryz.f58 = some c_interpreterref14_Plateau := by kernel_rfl
theorem comp_interpreterref14_find : compile Tryz.prog {} Tryz.f59 = some c_interpreterref14_find := by kernel_rfl
theorem comp_interpreterref14_lines6 : compile Tryz.prog {grow := [16]} Tryz.f60 = some c_interpreterref14_lines6 := by kernel_rfl
theorem comp_ip6_Chain : compile Tryz.prog {} Tryz.f61 = some c_ip6_Chain := by kernel_rfl
theorem comp_num_New : compile Tryz.prog {bx := [5]} Tryz.f62 = some c_num_New := by kernel_rfl
theorem comp_num_Reader_U32 : compile Tryz.prog {cw := [5]} Tryz.f63 = some c_num_Reader_U32 := by kernel_rfl
theorem comp_icmpmap_lost4 : compile Tryz.prog {} Tryz.f64 = some c_icmpmap_lost4 := by kernel_rfl
theorem comp_icmpmap_pointer4 : compile Tryz.prog {} Tryz.f65 = some c_icmpmap_pointer4 := by kernel_rfl
theorem comp_head64_Proto : compile Tryz.prog {} Tryz.f66 = some c_head64_Proto := by kernel_rfl
theorem comp_sum_Of : compile Tryz.prog {} Tryz.f67 = some c_sum_Of := by kernel_rfl
theorem comp_fault_turn4 : compile Tryz.prog {} Tryz.f68 = some c_fault_turn4 := by kernel_rfl
theorem comp_interpreterref04_Chain : compile Tryz.prog {nilT := [8]} Tryz.f69 = some c_interpreterref04_Chain := by kernel_rfl
theorem comp_interpreterref13_Proto : compile Tryz.prog {} Tryz.f70 = some c_interpreterref13_Proto := by kernel_rfl
theorem comp_interpreterref03_within : compile Tryz.prog {} Tryz.f71 = some c_interpreterref03_within := by kernel_rfl
theorem comp_interpreterref02_Total : compile Tryz.prog {} Tryz.f72 = some c_interpreterref02_Total := by kernel_rfl
theorem comp_interpreterref02_Words : compile Tryz.prog {nilT := [3]} Tryz.f73 = some c_interpreterref02_Words := by kernel_rfl
theorem comp_ip4_fault : compile Tryz.prog {} Tryz.f80 = some c_ip4_fault := by kernel_rfl
theorem comp_ip4_Parse_1 : compile Tryz.prog {} Tryz.f81 = some c_ip4_Parse_1 := by kernel_rfl
theorem comp_ip4_why : compile Tryz.prog {} Tryz.f82 = some c_ip4_why := by kernel_rfl
theorem comp_num_Big : compile Tryz.prog {} Tryz.f83 = some c_num_Big := by kernel_rfl
theorem comp_ip4_big : compile Tryz.prog {} Tryz.f84 = some c_ip4_big := by kernel_rfl
theorem comp_interpreterref01_Reader_Number : compile Tryz.prog {cw := [13]} Tryz.f85 = some c_interpreterref01_Reader_Number := by kernel_rfl
theorem comp_fault_ported : compile Tryz.prog {} Tryz.f86 = some c_fault_ported := by kernel_rfl
theorem comp_fault_echoed : compile Tryz.prog {} Tryz.f87 = some c_fault_echoed := by kernel_rfl
theorem comp_sum_Pseudo6 : compile Tryz.prog {} Tryz.f88 = some c_sum_Pseudo6 := by kernel_rfl
theorem comp_icmpmap_Plateau : compile Tryz.prog {} Tryz.f89 = some c_icmpmap_Plateau := by kernel_rfl
theorem comp_interpreterref15_sums : compile Tryz.prog {} Tryz.f90 = some c_interpreterref15_sums := by kernel_rfl
theorem comp_interpreterref02_low : compile Tryz.prog {} Tryz.f91 = some c_interpreterref02_low := by kernel_rfl
theorem comp_interpreterref01_Put : compile Tryz.prog {} Tryz.f92 = some c_interpreterref01_Put := by kernel_rfl
theorem comp_ip6_extends : compile Tryz.prog {} Tryz.f93 = some c_ip6_extends := by kernel_rfl
theorem comp_ip6_fault : compile Tryz.prog {} Tryz.f94 = some c_ip6_fault := by kernel_rfl
theorem comp_num_Reader_number : compile Tryz.prog {cw := [13]} Tryz.f95 = some c_num_Reader_number := by kernel_rfl
theorem comp_sum_fold : compile Tryz.prog {} Tryz.f96 = some c_sum_fold := by kernel_rfl
theorem comp_sum_add : compile Tryz.prog {} Tryz.f97 = some c_sum_add := by kernel_rfl
theorem comp_ip4_byteful : compile Tryz.prog {} Tryz.f103 = some c_ip4_byteful := by kernel_rfl
theorem comp_interpreterref01_Reader_Text : compile Tryz.prog {} Tryz.f104 = some c_interpreterref01_Reader_Text := by kernel_rfl
theorem comp_fault_update : compile Tryz.prog {} Tryz.f105 = some c_fault_update := by kernel_rfl
theorem comp_sum_big : compile Tryz.prog {} Tryz.f106 = some c_sum_big := by kernel_rfl
theorem comp_interpreterref02_Update : compile Tryz.prog {grow := [18]} Tryz.f107 = some c_interpreterref02_Update := by kernel_rfl
theorem comp_num_Reader_Text : compile Tryz.prog {} Tryz.f108 = some c_num_Reader_Text := by kernel_rfl
theorem comp_sum_Update : compile Tryz.prog {} Tryz.f111 = some c_sum_Update := by kernel_rfl
theorem comp_sum_even : compile Tryz.prog {} Tryz.f112 = some c_sum_even := by kernel_rfl
theorem rep_extra : Builder.Extra Tryz.prog Tryz.laysRepeat_ren where
  sizeBuilder := by kernel_rfl
  liesBuilder := by kernel_rfl
  t5 := Tryz.laysRepeat.t5
  a5 := Tryz.laysRepeat.a5
  z5 := Tryz.laysRepeat.z5
  v5 := Tryz.laysRepeat.v5
  infoByte := by kernel_rfl
  cellsByte := by kernel_rfl
  sizeByte := by kernel_rfl
  neB5 := by decide
theorem rep_id : Tryz.laysRepeat_ren.f 105 = id_strings_Repeat := by kernel_rfl
theorem rep_ok : CallOk Tryz.prog (extR id_strings_Repeat) :=
  extR_ok ⟨Tryz.f31, Tryz.func31, by kernel_rfl, of_decide_eq_true (by kernel_rfl)⟩ (fun s c w h1 h2 => by
    have := Any.strings_Repeat Tryz.laysRepeat rep_extra s c w h1 h2
    rwa [rep_id] at this)
theorem names_ok : ((table.map (·.1)).all fun i => ((Tryz.prog.funcs[i]?).map fun fn => fn.name != "runtime.NumGoroutine").getD false) = true := by kernel_rfl
theorem name_ok {i : Nat} {c : MFn} {fn : Func} (h : (i, c) ∈ table) (hf : Tryz.prog.funcs[i]? = some fn) : fn.name ≠ "runtime.NumGoroutine" := by
  have := List.all_eq_true.1 names_ok i (List.mem_map.2 ⟨(i, c), h, rfl⟩)
  rw [hf] at this
  simpa using this
theorem table_ok : ∀ p ∈ table, ∃ fn ann, Tryz.prog.funcs[p.1]? = some fn ∧ compile Tryz.prog ann fn = some p.2 := by
  unfold table
  simp only [List.forall_mem_cons]
  exact ⟨⟨Tryz.f3, _, Tryz.func3, comp_interpreterlaw15_FaultCarries⟩, ⟨Tryz.f4, _, Tryz.func4, comp_interpreterlaw15_awake⟩, ⟨Tryz.f5, _, Tryz.func5, comp_fault_Carry6⟩, ⟨Tryz.f6, _, Tryz.func6, comp_interpreterref15_Carry6⟩, ⟨Tryz.f7, _, Tryz.func7, comp_fault_Carry4⟩, ⟨Tryz.f8, _, Tryz.func8, comp_interpreterref15_Carry4⟩, ⟨Tryz.f9, _, Tryz.func9, comp_interpreterref03_Bytes⟩, ⟨Tryz.f10, _, Tryz.func10, comp_interpreterlaw15_gram⟩, ⟨Tryz.f11, _, Tryz.func11, comp_fault_Own4⟩, ⟨Tryz.f12, _, Tryz.func12, comp_interpreterref03_Parse⟩, ⟨Tryz.f13, _, Tryz.func13, comp_fault_Inside4⟩, ⟨Tryz.f14, _, Tryz.func14, comp_fault_Quote6⟩, ⟨Tryz.f15, _, Tryz.func15, comp_icmp4_Failure⟩, ⟨Tryz.f16, _, Tryz.func16, comp_icmpmap_To6⟩, ⟨Tryz.f17, _, Tryz.func17, comp_interpreterref15_Inside4⟩, ⟨Tryz.f18, _, Tryz.func18, comp_interpreterref07_Failure⟩, ⟨Tryz.f19, _, Tryz.func19, comp_interpreterref15_Quote6⟩, ⟨Tryz.f20, _, Tryz.func20, comp_interpreterref14_To6⟩, ⟨Tryz.f21, _, Tryz.func21, comp_fault_Inside6⟩, ⟨Tryz.f22, _, Tryz.func22, comp_icmp6_Failure⟩, ⟨Tryz.f23, _, Tryz.func23, comp_icmpmap_To4⟩, ⟨Tryz.f24, _, Tryz.func24, comp_fault_Quote4⟩, ⟨Tryz.f25, _, Tryz.func25, comp_interpreterref15_Inside6⟩, ⟨Tryz.f26, _, Tryz.func26, comp_interpreterref08_Failure⟩, ⟨Tryz.f27, _, Tryz.func27, comp_interpreterref15_Quote4⟩, ⟨Tryz.f28, _, Tryz.func28, comp_interpreterref14_To4⟩, ⟨Tryz.f29, _, Tryz.func29, comp_interpreterref03_Why⟩, ⟨Tryz.f30, _, Tryz.func30, comp_interpreterref02_Of⟩, ⟨Tryz.f32, _, Tryz.func32, comp_ip4_Parse⟩, ⟨Tryz.f33, _, Tryz.func33, comp_class_Martian4⟩, ⟨Tryz.f34, _, Tryz.func34, comp_fault_beginning⟩, ⟨Tryz.f35, _, Tryz.func35, comp_icmp4_Bytes⟩, ⟨Tryz.f36, _, Tryz.func36, comp_ip4_Bytes⟩, ⟨Tryz.f37, _, Tryz.func37, comp_interpreterref03_number⟩, ⟨Tryz.f38, _, Tryz.func38, comp_fault_fault⟩, ⟨Tryz.f39, _, Tryz.func39, comp_sum_Right⟩, ⟨Tryz.f40, _, Tryz.func40, comp_fault_Inside4_1⟩, ⟨Tryz.f41, _, Tryz.func41, comp_fault_short⟩, ⟨Tryz.f42, _, Tryz.func42, comp_head46_Proto⟩, ⟨Tryz.f43, _, Tryz.func43, comp_fault_within⟩, ⟨Tryz.f44, _, Tryz.func44, comp_fault_big⟩, ⟨Tryz.f45, _, Tryz.func45, comp_fault_turn6⟩, ⟨Tryz.f46, _, Tryz.func46, comp_icmpmap_sides⟩, ⟨Tryz.f47, _, Tryz.func47, comp_icmpmap_said⟩, ⟨Tryz.f48, _, Tryz.func48, comp_icmpmap_lost6⟩, ⟨Tryz.f49, _, Tryz.func49, comp_icmpmap_pointer6⟩, ⟨Tryz.f50, _, Tryz.func50, comp_interpreterref15_number⟩, ⟨Tryz.f51, _, Tryz.func51, comp_interpreterref15_little⟩, ⟨Tryz.f52, _, Tryz.func52, comp_interpreterref15_bound⟩, ⟨Tryz.f53, _, Tryz.func53, comp_interpreterref12_Proto⟩, ⟨Tryz.f54, _, Tryz.func54, comp_interpreterref15_turn⟩, ⟨Tryz.f55, _, Tryz.func55, comp_interpreterref02_Pseudo6⟩, ⟨Tryz.f56, _, Tryz.func56, comp_interpreterref15_put⟩, ⟨Tryz.f57, _, Tryz.func57, comp_interpreterref14_bounds⟩, ⟨Tryz.f58, _, Tryz.func58, comp_interpreterref14_Plateau⟩, ⟨Tryz.f59, _, Tryz.func59, comp_interpreterref14_find⟩, ⟨Tryz.f60, _, Tryz.func60, comp_interpreterref14_lines6⟩, ⟨Tryz.f61, _, Tryz.func61, comp_ip6_Chain⟩, ⟨Tryz.f62, _, Tryz.func62, comp_num_New⟩, ⟨Tryz.f63, _, Tryz.func63, comp_num_Reader_U32⟩, ⟨Tryz.f64, _, Tryz.func64, comp_icmpmap_lost4⟩, ⟨Tryz.f65, _, Tryz.func65, comp_icmpmap_pointer4⟩, ⟨Tryz.f66, _, Tryz.func66, comp_head64_Proto⟩, ⟨Tryz.f67, _, Tryz.func67, comp_sum_Of⟩, ⟨Tryz.f68, _, Tryz.func68, comp_fault_turn4⟩, ⟨Tryz.f69, _, Tryz.func69, comp_interpreterref04_Chain⟩, ⟨Tryz.f70, _, Tryz.func70, comp_interpreterref13_Proto⟩, ⟨Tryz.f71, _, Tryz.func71, comp_interpreterref03_within⟩, ⟨Tryz.f72, _, Tryz.func72, comp_interpreterref02_Total⟩, ⟨Tryz.f73, _, Tryz.func73, comp_interpreterref02_Words⟩, ⟨Tryz.f80, _, Tryz.func80, comp_ip4_fault⟩, ⟨Tryz.f81, _, Tryz.func81, comp_ip4_Parse_1⟩, ⟨Tryz.f82, _, Tryz.func82, comp_ip4_why⟩, ⟨Tryz.f83, _, Tryz.func83, comp_num_Big⟩, ⟨Tryz.f84, _, Tryz.func84, comp_ip4_big⟩, ⟨Tryz.f85, _, Tryz.func85, comp_interpreterref01_Reader_Number⟩, ⟨Tryz.f86, _, Tryz.func86, comp_fault_ported⟩, ⟨Tryz.f87, _, Tryz.func87, comp_fault_echoed⟩, ⟨Tryz.f88, _, Tryz.func88, comp_sum_Pseudo6⟩, ⟨Tryz.f89, _, Tryz.func89, comp_icmpmap_Plateau⟩, ⟨Tryz.f90, _, Tryz.func90, comp_interpreterref15_sums⟩, ⟨Tryz.f91, _, Tryz.func91, comp_interpreterref02_low⟩, ⟨Tryz.f92, _, Tryz.func92, comp_interpreterref01_Put⟩, ⟨Tryz.f93, _, Tryz.func93, comp_ip6_extends⟩, ⟨Tryz.f94, _, Tryz.func94, comp_ip6_fault⟩, ⟨Tryz.f95, _, Tryz.func95, comp_num_Reader_number⟩, ⟨Tryz.f96, _, Tryz.func96, comp_sum_fold⟩, ⟨Tryz.f97, _, Tryz.func97, comp_sum_add⟩, ⟨Tryz.f103, _, Tryz.func103, comp_ip4_byteful⟩, ⟨Tryz.f104, _, Tryz.func104, comp_interpreterref01_Reader_Text⟩, ⟨Tryz.f105, _, Tryz.func105, comp_fault_update⟩, ⟨Tryz.f106, _, Tryz.func106, comp_sum_big⟩, ⟨Tryz.f107, _, Tryz.func107, comp_interpreterref02_Update⟩, ⟨Tryz.f108, _, Tryz.func108, comp_num_Reader_Text⟩, ⟨Tryz.f111, _, Tryz.func111, comp_sum_Update⟩, ⟨Tryz.f112, _, Tryz.func112, comp_sum_even⟩, by simp⟩
theorem sysOk : SysOk Tryz.prog sys where
  fns := fun f c h => by
    obtain ⟨⟨i, m⟩, h1, h2⟩ := Option.map_eq_some_iff.1 h
    have h3 := List.find?_some h1
    have h4 := List.mem_of_find?_eq_some h1
    simp only [beq_iff_eq] at h3
    subst h3
    have h2 : m = c := h2
    subst h2
    obtain ⟨fn, ann, k1, k2⟩ := table_ok _ h4
    exact ⟨fn, ann, k1, name_ok h4 k1, k2⟩
  ext := rep_ok
theorem mixed : Tryz.prog.follows .mixedOrders = true := by kernel_rfl
end Go.Ev
