/- Part 8 of a proof: what the functions yield. It stands by itself; no condition. -/
import Derived.Test.YtbdkfdkmefebnaaE4
import Derived.Test.YtbdkfdkmefebnaaE7
import Derived.Test.YtbdkfdkmefebnaaE2
import Derived.Test.YtbdkfdkmefebnaaProg
namespace Go.Ev
open Go.Proofs
set_option maxRecDepth 100000
theorem comp_interpreterlaw15_FaultBack : compile Try.prog {} Try.f6 = some c_interpreterlaw15_FaultBack := by kernel_rfl
theorem comp_interpreterlaw15_gram : compile Try.prog {} Try.f10 = some c_interpreterlaw15_gram := by kernel_rfl
theorem comp_interpreterref03_Bytes : compile Try.prog {bytesM := [70]} Try.f11 = some c_interpreterref03_Bytes := by kernel_rfl
theorem comp_fault_Own4 : compile Try.prog {bx := [5]} Try.f12 = some c_fault_Own4 := by kernel_rfl
theorem comp_fault_Inside4 : compile Try.prog {} Try.f13 = some c_fault_Inside4 := by kernel_rfl
theorem comp_interpreterlaw15_awake : compile Try.prog {} Try.f14 = some c_interpreterlaw15_awake := by kernel_rfl
theorem comp_interpreterlaw15_same : compile Try.prog {} Try.f15 = some c_interpreterlaw15_same := by kernel_rfl
theorem comp_fault_Quote6 : compile Try.prog {} Try.f16 = some c_fault_Quote6 := by kernel_rfl
theorem comp_fault_Inside6 : compile Try.prog {cw := [59, 103], cf := [58, 102]} Try.f18 = some c_fault_Inside6 := by kernel_rfl
theorem comp_fault_Quote4 : compile Try.prog {} Try.f21 = some c_fault_Quote4 := by kernel_rfl
theorem comp_interpreterlaw15_alike : compile Try.prog {} Try.f22 = some c_interpreterlaw15_alike := by kernel_rfl
theorem comp_ip4_Parse : compile Try.prog {} Try.f24 = some c_ip4_Parse := by kernel_rfl
theorem comp_sum_Pseudo6 : compile Try.prog {} Try.f29 = some c_sum_Pseudo6 := by kernel_rfl
theorem comp_icmp4_Failure : compile Try.prog {} Try.f32 = some c_icmp4_Failure := by kernel_rfl
theorem comp_interpreterref03_Why : compile Try.prog {} Try.f35 = some c_interpreterref03_Why := by kernel_rfl
theorem comp_interpreterref02_Of : compile Try.prog {} Try.f36 = some c_interpreterref02_Of := by kernel_rfl
theorem comp_class_Martian4 : compile Try.prog {} Try.f37 = some c_class_Martian4 := by kernel_rfl
theorem comp_fault_beginning : compile Try.prog {} Try.f38 = some c_fault_beginning := by kernel_rfl
theorem comp_icmp4_Bytes : compile Try.prog {} Try.f39 = some c_icmp4_Bytes := by kernel_rfl
theorem comp_ip4_Bytes : compile Try.prog {} Try.f40 = some c_ip4_Bytes := by kernel_rfl
theorem comp_fault_fault : compile Try.prog {} Try.f41 = some c_fault_fault := by kernel_rfl
theorem comp_sum_Right : compile Try.prog {} Try.f42 = some c_sum_Right := by kernel_rfl
theorem comp_fault_Inside4_1 : compile Try.prog {} Try.f43 = some c_fault_Inside4_1 := by kernel_rfl
theorem comp_fault_short : compile Try.prog {} Try.f44 = some c_fault_short := by kernel_rfl
theorem comp_interpreterref03_Parse : compile Try.prog {} Try.f45 = some c_interpreterref03_Parse := by kernel_rfl
theorem comp_head46_Proto : compile Try.prog {} Try.f46 = some c_head46_Proto := by kernel_rfl
theorem comp_fault_within : compile Try.prog {} Try.f47 = some c_fault_within := by kernel_rfl
theorem comp_fault_big : compile Try.prog {} Try.f48 = some c_fault_big := by kernel_rfl
theorem comp_fault_turn6 : compile Try.prog {} Try.f49 = some c_fault_turn6 := by kernel_rfl
theorem comp_ip6_Chain : compile Try.prog {} Try.f52 = some c_ip6_Chain := by kernel_rfl
theorem comp_num_New : compile Try.prog {bx := [5]} Try.f53 = some c_num_New := by kernel_rfl
theorem comp_num_Reader_U32 : compile Try.prog {cw := [5]} Try.f54 = some c_num_Reader_U32 := by kernel_rfl
theorem comp_head64_Proto : compile Try.prog {} Try.f56 = some c_head64_Proto := by kernel_rfl
theorem comp_sum_Of : compile Try.prog {} Try.f57 = some c_sum_Of := by kernel_rfl
theorem comp_fault_turn4 : compile Try.prog {} Try.f58 = some c_fault_turn4 := by kernel_rfl
theorem comp_ip4_fault : compile Try.prog {} Try.f61 = some c_ip4_fault := by kernel_rfl
theorem comp_ip4_Parse_1 : compile Try.prog {} Try.f62 = some c_ip4_Parse_1 := by kernel_rfl
theorem comp_ip4_why : compile Try.prog {} Try.f63 = some c_ip4_why := by kernel_rfl
theorem comp_ip6_fault : compile Try.prog {} Try.f69 = some c_ip6_fault := by kernel_rfl
theorem comp_sum_big : compile Try.prog {} Try.f72 = some c_sum_big := by kernel_rfl
theorem comp_interpreterref03_within : compile Try.prog {} Try.f81 = some c_interpreterref03_within := by kernel_rfl
theorem comp_interpreterref02_Total : compile Try.prog {} Try.f82 = some c_interpreterref02_Total := by kernel_rfl
theorem comp_interpreterref02_Words : compile Try.prog {nilT := [3]} Try.f83 = some c_interpreterref02_Words := by kernel_rfl
theorem comp_num_Big : compile Try.prog {} Try.f84 = some c_num_Big := by kernel_rfl
theorem comp_ip4_big : compile Try.prog {} Try.f85 = some c_ip4_big := by kernel_rfl
theorem comp_interpreterref03_number : compile Try.prog {bx := [11], cw := [14]} Try.f86 = some c_interpreterref03_number := by kernel_rfl
theorem comp_fault_ported : compile Try.prog {} Try.f87 = some c_fault_ported := by kernel_rfl
theorem comp_fault_echoed : compile Try.prog {} Try.f88 = some c_fault_echoed := by kernel_rfl
theorem comp_interpreterref01_Reader_Number : compile Try.prog {cw := [13]} Try.f89 = some c_interpreterref01_Reader_Number := by kernel_rfl
theorem comp_ip6_extends : compile Try.prog {} Try.f90 = some c_ip6_extends := by kernel_rfl
theorem comp_num_Reader_number : compile Try.prog {cw := [13]} Try.f91 = some c_num_Reader_number := by kernel_rfl
theorem comp_sum_fold : compile Try.prog {} Try.f92 = some c_sum_fold := by kernel_rfl
theorem comp_sum_add : compile Try.prog {} Try.f93 = some c_sum_add := by kernel_rfl
theorem comp_ip4_byteful : compile Try.prog {} Try.f96 = some c_ip4_byteful := by kernel_rfl
theorem comp_fault_update : compile Try.prog {} Try.f111 = some c_fault_update := by kernel_rfl
theorem comp_interpreterref01_Reader_Text : compile Try.prog {} Try.f112 = some c_interpreterref01_Reader_Text := by kernel_rfl
theorem comp_num_Reader_Text : compile Try.prog {} Try.f113 = some c_num_Reader_Text := by kernel_rfl
theorem comp_sum_Update : compile Try.prog {} Try.f123 = some c_sum_Update := by kernel_rfl
theorem comp_sum_even : compile Try.prog {} Try.f125 = some c_sum_even := by kernel_rfl
theorem rep_extra : Builder.Extra Try.prog Try.laysRepeat_ren where
  sizeBuilder := by kernel_rfl
  liesBuilder := by kernel_rfl
  t5 := Try.laysRepeat.t5
  a5 := Try.laysRepeat.a5
  z5 := Try.laysRepeat.z5
  v5 := Try.laysRepeat.v5
  infoByte := by kernel_rfl
  cellsByte := by kernel_rfl
  sizeByte := by kernel_rfl
  neB5 := by decide
theorem rep_id : Try.laysRepeat_ren.f 105 = id_strings_Repeat := by kernel_rfl
theorem rep_ok : CallOk Try.prog (extR id_strings_Repeat) :=
  extR_ok ⟨Try.f34, Try.func34, by kernel_rfl, of_decide_eq_true (by kernel_rfl)⟩ (fun s c w h1 h2 => by
    have := Any.strings_Repeat Try.laysRepeat rep_extra s c w h1 h2
    rwa [rep_id] at this)
theorem names_ok : ((table.map (·.1)).all fun i => ((Try.prog.funcs[i]?).map fun fn => fn.name != "runtime.NumGoroutine").getD false) = true := by kernel_rfl
theorem name_ok {i : Nat} {c : MFn} {fn : Func} (h : (i, c) ∈ table) (hf : Try.prog.funcs[i]? = some fn) : fn.name ≠ "runtime.NumGoroutine" := by
  have := List.all_eq_true.1 names_ok i (List.mem_map.2 ⟨(i, c), h, rfl⟩)
  rw [hf] at this
  simpa using this
theorem table_ok : ∀ p ∈ table, ∃ fn ann, Try.prog.funcs[p.1]? = some fn ∧ compile Try.prog ann fn = some p.2 := by
  unfold table
  simp only [List.forall_mem_cons]
  exact ⟨⟨Try.f6, _, Try.func6, comp_interpreterlaw15_FaultBack⟩, ⟨Try.f10, _, Try.func10, comp_interpreterlaw15_gram⟩, ⟨Try.f11, _, Try.func11, comp_interpreterref03_Bytes⟩, ⟨Try.f12, _, Try.func12, comp_fault_Own4⟩, ⟨Try.f13, _, Try.func13, comp_fault_Inside4⟩, ⟨Try.f14, _, Try.func14, comp_interpreterlaw15_awake⟩, ⟨Try.f15, _, Try.func15, comp_interpreterlaw15_same⟩, ⟨Try.f16, _, Try.func16, comp_fault_Quote6⟩, ⟨Try.f18, _, Try.func18, comp_fault_Inside6⟩, ⟨Try.f21, _, Try.func21, comp_fault_Quote4⟩, ⟨Try.f22, _, Try.func22, comp_interpreterlaw15_alike⟩, ⟨Try.f24, _, Try.func24, comp_ip4_Parse⟩, ⟨Try.f29, _, Try.func29, comp_sum_Pseudo6⟩, ⟨Try.f32, _, Try.func32, comp_icmp4_Failure⟩, ⟨Try.f35, _, Try.func35, comp_interpreterref03_Why⟩, ⟨Try.f36, _, Try.func36, comp_interpreterref02_Of⟩, ⟨Try.f37, _, Try.func37, comp_class_Martian4⟩, ⟨Try.f38, _, Try.func38, comp_fault_beginning⟩, ⟨Try.f39, _, Try.func39, comp_icmp4_Bytes⟩, ⟨Try.f40, _, Try.func40, comp_ip4_Bytes⟩, ⟨Try.f41, _, Try.func41, comp_fault_fault⟩, ⟨Try.f42, _, Try.func42, comp_sum_Right⟩, ⟨Try.f43, _, Try.func43, comp_fault_Inside4_1⟩, ⟨Try.f44, _, Try.func44, comp_fault_short⟩, ⟨Try.f45, _, Try.func45, comp_interpreterref03_Parse⟩, ⟨Try.f46, _, Try.func46, comp_head46_Proto⟩, ⟨Try.f47, _, Try.func47, comp_fault_within⟩, ⟨Try.f48, _, Try.func48, comp_fault_big⟩, ⟨Try.f49, _, Try.func49, comp_fault_turn6⟩, ⟨Try.f52, _, Try.func52, comp_ip6_Chain⟩, ⟨Try.f53, _, Try.func53, comp_num_New⟩, ⟨Try.f54, _, Try.func54, comp_num_Reader_U32⟩, ⟨Try.f56, _, Try.func56, comp_head64_Proto⟩, ⟨Try.f57, _, Try.func57, comp_sum_Of⟩, ⟨Try.f58, _, Try.func58, comp_fault_turn4⟩, ⟨Try.f61, _, Try.func61, comp_ip4_fault⟩, ⟨Try.f62, _, Try.func62, comp_ip4_Parse_1⟩, ⟨Try.f63, _, Try.func63, comp_ip4_why⟩, ⟨Try.f69, _, Try.func69, comp_ip6_fault⟩, ⟨Try.f72, _, Try.func72, comp_sum_big⟩, ⟨Try.f81, _, Try.func81, comp_interpreterref03_within⟩, ⟨Try.f82, _, Try.func82, comp_interpreterref02_Total⟩, ⟨Try.f83, _, Try.func83, comp_interpreterref02_Words⟩, ⟨Try.f84, _, Try.func84, comp_num_Big⟩, ⟨Try.f85, _, Try.func85, comp_ip4_big⟩, ⟨Try.f86, _, Try.func86, comp_interpreterref03_number⟩, ⟨Try.f87, _, Try.func87, comp_fault_ported⟩, ⟨Try.f88, _, Try.func88, comp_fault_echoed⟩, ⟨Try.f89, _, Try.func89, comp_interpreterref01_Reader_Number⟩, ⟨Try.f90, _, Try.func90, comp_ip6_extends⟩, ⟨Try.f91, _, Try.func91, comp_num_Reader_number⟩, ⟨Try.f92, _, Try.func92, comp_sum_fold⟩, ⟨Try.f93, _, Try.func93, comp_sum_add⟩, ⟨Try.f96, _, Try.func96, comp_ip4_byteful⟩, ⟨Try.f111, _, Try.func111, comp_fault_update⟩, ⟨Try.f112, _, Try.func112, comp_interpreterref01_Reader_Text⟩, ⟨Try.f113, _, Try.func113, comp_num_Reader_Text⟩, ⟨Try.f123, _, Try.func123, comp_sum_Update⟩, ⟨Try.f125, _, Try.func125, comp_sum_even⟩, by simp⟩
theorem sysOk : SysOk Try.prog sys where
  fns := fun f c h => by
    obtain ⟨⟨i, m⟩, h1, h2⟩ := Option.map_eq_some_iff.1 h
    have h3 := List.find?_some h1
    have h4 := List.mem_of_find?_eq_some h1
    simp only [beq_iff_eq] at h3
    subst h3
    have h2 : m = c := h2
    subst h2
    obtain ⟨fn, ann, k1, k2⟩ := table_ok _ h4
    exact ⟨fn, ann, k1, name_ok h4 k1, k2⟩
  ext := rep_ok
theorem mixed : Try.prog.follows .mixedOrders = true := by kernel_rfl
end Go.Ev
