/- Part 10 of a proof: what the functions yield. It stands by itself; no condition. -/
import Derived.Test.YtbdkfdkmefebnaaGreatDoorE4
import Derived.Test.YtbdkfdkmefebnaaGreatDoorE8
import Derived.Test.YtbdkfdkmefebnaaGreatDoorE2
import Derived.Test.YtbdkfdkmefebnaaGreatDoorE9
import Derived.Test.YtbdkfdkmefebnaaGreatDoorProg
namespace Go.Ev
open Go.Proofs
set_option maxRecDepth 100000
theorem comp_interpreterlaw15_FaultWholeSix : compile Tryz.prog {} Tryz.f4 = some c_interpreterlaw15_FaultWholeSix := by kernel_rfl
theorem comp_interpreterlaw15_awake : compile Tryz.prog {} Tryz.f5 = some c_interpreterlaw15_awake := by kernel_rfl
theorem comp_fault_Inside4 : compile Tryz.prog {} Tryz.f6 = some c_fault_Inside4 := by kernel_rfl
theorem comp_fault_Quote6 : compile Tryz.prog {} Tryz.f7 = some c_fault_Quote6 := by kernel_rfl
theorem comp_ip6_Parse : compile Tryz.prog {cw := [42, 109], cf := [41, 108]} Tryz.f9 = some c_ip6_Parse := by kernel_rfl
theorem comp_tcp_Check : compile Tryz.prog {} Tryz.f10 = some c_tcp_Check := by kernel_rfl
theorem comp_sum_Pseudo4 : compile Tryz.prog {} Tryz.f11 = some c_sum_Pseudo4 := by kernel_rfl
theorem comp_sum_Pseudo6 : compile Tryz.prog {} Tryz.f12 = some c_sum_Pseudo6 := by kernel_rfl
theorem comp_udp_Check : compile Tryz.prog {} Tryz.f13 = some c_udp_Check := by kernel_rfl
theorem comp_icmp4_Parse : compile Tryz.prog {cw := [23], cf := [22]} Tryz.f14 = some c_icmp4_Parse := by kernel_rfl
theorem comp_icmp4_Echo : compile Tryz.prog {} Tryz.f15 = some c_icmp4_Echo := by kernel_rfl
theorem comp_icmp6_Parse : compile Tryz.prog {cw := [26], cf := [25]} Tryz.f16 = some c_icmp6_Parse := by kernel_rfl
theorem comp_icmp6_Echo : compile Tryz.prog {} Tryz.f17 = some c_icmp6_Echo := by kernel_rfl
theorem comp_fault_Inside6 : compile Tryz.prog {cw := [59, 103], cf := [58, 102]} Tryz.f18 = some c_fault_Inside6 := by kernel_rfl
theorem comp_interpreterref04_Same : compile Tryz.prog {} Tryz.f19 = some c_interpreterref04_Same := by kernel_rfl
theorem comp_fault_Quote4 : compile Tryz.prog {} Tryz.f20 = some c_fault_Quote4 := by kernel_rfl
theorem comp_ip4_Parse : compile Tryz.prog {} Tryz.f21 = some c_ip4_Parse := by kernel_rfl
theorem comp_interpreterlaw15_bare : compile Tryz.prog {} Tryz.f22 = some c_interpreterlaw15_bare := by kernel_rfl
theorem comp_interpreterref03_Bytes : compile Tryz.prog {bytesM := [70]} Tryz.f23 = some c_interpreterref03_Bytes := by kernel_rfl
theorem comp_interpreterlaw15_gram : compile Tryz.prog {} Tryz.f24 = some c_interpreterlaw15_gram := by kernel_rfl
theorem comp_fault_Own4 : compile Tryz.prog {bx := [5]} Tryz.f25 = some c_fault_Own4 := by kernel_rfl
theorem comp_interpreterref03_Parse : compile Tryz.prog {} Tryz.f26 = some c_interpreterref03_Parse := by kernel_rfl
theorem comp_fault_fault : compile Tryz.prog {} Tryz.f27 = some c_fault_fault := by kernel_rfl
theorem comp_sum_Right : compile Tryz.prog {} Tryz.f28 = some c_sum_Right := by kernel_rfl
theorem comp_fault_Inside4_1 : compile Tryz.prog {} Tryz.f29 = some c_fault_Inside4_1 := by kernel_rfl
theorem comp_fault_short : compile Tryz.prog {} Tryz.f30 = some c_fault_short := by kernel_rfl
theorem comp_head46_Proto : compile Tryz.prog {} Tryz.f31 = some c_head46_Proto := by kernel_rfl
theorem comp_fault_within : compile Tryz.prog {} Tryz.f32 = some c_fault_within := by kernel_rfl
theorem comp_fault_big : compile Tryz.prog {} Tryz.f33 = some c_fault_big := by kernel_rfl
theorem comp_fault_turn6 : compile Tryz.prog {} Tryz.f34 = some c_fault_turn6 := by kernel_rfl
theorem comp_ip6_fault : compile Tryz.prog {} Tryz.f36 = some c_ip6_fault := by kernel_rfl
theorem comp_num_New : compile Tryz.prog {bx := [5]} Tryz.f37 = some c_num_New := by kernel_rfl
theorem comp_num_Reader_U32 : compile Tryz.prog {cw := [5]} Tryz.f38 = some c_num_Reader_U32 := by kernel_rfl
theorem comp_ip6_Chain : compile Tryz.prog {} Tryz.f39 = some c_ip6_Chain := by kernel_rfl
theorem comp_ip6_pieced : compile Tryz.prog {} Tryz.f40 = some c_ip6_pieced := by kernel_rfl
theorem comp_tcp_Parse : compile Tryz.prog {} Tryz.f41 = some c_tcp_Parse := by kernel_rfl
theorem comp_tcp_fault : compile Tryz.prog {} Tryz.f42 = some c_tcp_fault := by kernel_rfl
theorem comp_sum_big : compile Tryz.prog {} Tryz.f43 = some c_sum_big := by kernel_rfl
theorem comp_udp_Parse : compile Tryz.prog {} Tryz.f44 = some c_udp_Parse := by kernel_rfl
theorem comp_udp_fault : compile Tryz.prog {} Tryz.f45 = some c_udp_fault := by kernel_rfl
theorem comp_icmp4_fault : compile Tryz.prog {} Tryz.f46 = some c_icmp4_fault := by kernel_rfl
theorem comp_icmp6_fault : compile Tryz.prog {} Tryz.f47 = some c_icmp6_fault := by kernel_rfl
theorem comp_head64_Proto : compile Tryz.prog {} Tryz.f48 = some c_head64_Proto := by kernel_rfl
theorem comp_sum_Of : compile Tryz.prog {} Tryz.f49 = some c_sum_Of := by kernel_rfl
theorem comp_fault_turn4 : compile Tryz.prog {} Tryz.f50 = some c_fault_turn4 := by kernel_rfl
theorem comp_ip4_fault : compile Tryz.prog {} Tryz.f51 = some c_ip4_fault := by kernel_rfl
theorem comp_ip4_Parse_1 : compile Tryz.prog {} Tryz.f52 = some c_ip4_Parse_1 := by kernel_rfl
theorem comp_ip4_why : compile Tryz.prog {} Tryz.f53 = some c_ip4_why := by kernel_rfl
theorem comp_interpreterref03_Why : compile Tryz.prog {} Tryz.f54 = some c_interpreterref03_Why := by kernel_rfl
theorem comp_interpreterref02_Of : compile Tryz.prog {} Tryz.f55 = some c_interpreterref02_Of := by kernel_rfl
theorem comp_icmp4_Failure : compile Tryz.prog {} Tryz.f57 = some c_icmp4_Failure := by kernel_rfl
theorem comp_class_Martian4 : compile Tryz.prog {} Tryz.f58 = some c_class_Martian4 := by kernel_rfl
theorem comp_fault_beginning : compile Tryz.prog {} Tryz.f59 = some c_fault_beginning := by kernel_rfl
theorem comp_icmp4_Bytes : compile Tryz.prog {} Tryz.f60 = some c_icmp4_Bytes := by kernel_rfl
theorem comp_ip4_Bytes : compile Tryz.prog {} Tryz.f61 = some c_ip4_Bytes := by kernel_rfl
theorem comp_interpreterref03_number : compile Tryz.prog {bx := [11], cw := [14]} Tryz.f62 = some c_interpreterref03_number := by kernel_rfl
theorem comp_num_Big : compile Tryz.prog {} Tryz.f63 = some c_num_Big := by kernel_rfl
theorem comp_fault_ported : compile Tryz.prog {} Tryz.f64 = some c_fault_ported := by kernel_rfl
theorem comp_fault_echoed : compile Tryz.prog {} Tryz.f65 = some c_fault_echoed := by kernel_rfl
theorem comp_num_Reader_number : compile Tryz.prog {cw := [13]} Tryz.f70 = some c_num_Reader_number := by kernel_rfl
theorem comp_ip6_extends : compile Tryz.prog {} Tryz.f71 = some c_ip6_extends := by kernel_rfl
theorem comp_tcp_two : compile Tryz.prog {} Tryz.f72 = some c_tcp_two := by kernel_rfl
theorem comp_udp_two : compile Tryz.prog {} Tryz.f73 = some c_udp_two := by kernel_rfl
theorem comp_sum_fold : compile Tryz.prog {} Tryz.f74 = some c_sum_fold := by kernel_rfl
theorem comp_sum_add : compile Tryz.prog {} Tryz.f75 = some c_sum_add := by kernel_rfl
theorem comp_ip4_byteful : compile Tryz.prog {} Tryz.f76 = some c_ip4_byteful := by kernel_rfl
theorem comp_interpreterref03_within : compile Tryz.prog {} Tryz.f77 = some c_interpreterref03_within := by kernel_rfl
theorem comp_interpreterref02_Total : compile Tryz.prog {} Tryz.f78 = some c_interpreterref02_Total := by kernel_rfl
theorem comp_interpreterref02_Words : compile Tryz.prog {nilT := [3]} Tryz.f79 = some c_interpreterref02_Words := by kernel_rfl
theorem comp_ip4_big : compile Tryz.prog {} Tryz.f86 = some c_ip4_big := by kernel_rfl
theorem comp_interpreterref01_Reader_Number : compile Tryz.prog {cw := [13]} Tryz.f87 = some c_interpreterref01_Reader_Number := by kernel_rfl
theorem comp_fault_update : compile Tryz.prog {} Tryz.f88 = some c_fault_update := by kernel_rfl
theorem comp_num_Reader_Text : compile Tryz.prog {} Tryz.f92 = some c_num_Reader_Text := by kernel_rfl
theorem comp_interpreterref01_Reader_Text : compile Tryz.prog {} Tryz.f98 = some c_interpreterref01_Reader_Text := by kernel_rfl
theorem comp_sum_Update : compile Tryz.prog {} Tryz.f99 = some c_sum_Update := by kernel_rfl
theorem comp_sum_even : compile Tryz.prog {} Tryz.f102 = some c_sum_even := by kernel_rfl
theorem rep_extra : Builder.Extra Tryz.prog Tryz.laysRepeat_ren where
  sizeBuilder := by kernel_rfl
  liesBuilder := by kernel_rfl
  t5 := Tryz.laysRepeat.t5
  a5 := Tryz.laysRepeat.a5
  z5 := Tryz.laysRepeat.z5
  v5 := Tryz.laysRepeat.v5
  infoByte := by kernel_rfl
  cellsByte := by kernel_rfl
  sizeByte := by kernel_rfl
  neB5 := by decide
theorem rep_id : Tryz.laysRepeat_ren.f 105 = id_strings_Repeat := by kernel_rfl
theorem rep_ok : CallOk Tryz.prog (extR id_strings_Repeat) :=
  extR_ok ⟨Tryz.f56, Tryz.func56, by kernel_rfl, of_decide_eq_true (by kernel_rfl)⟩ (fun s c w h1 h2 => by
    have := Any.strings_Repeat Tryz.laysRepeat rep_extra s c w h1 h2
    rwa [rep_id] at this)
theorem names_ok : ((table.map (·.1)).all fun i => ((Tryz.prog.funcs[i]?).map fun fn => fn.name != "runtime.NumGoroutine").getD false) = true := by kernel_rfl
theorem name_ok {i : Nat} {c : MFn} {fn : Func} (h : (i, c) ∈ table) (hf : Tryz.prog.funcs[i]? = some fn) : fn.name ≠ "runtime.NumGoroutine" := by
  have := List.all_eq_true.1 names_ok i (List.mem_map.2 ⟨(i, c), h, rfl⟩)
  rw [hf] at this
  simpa using this
theorem table_ok : ∀ p ∈ table, ∃ fn ann, Tryz.prog.funcs[p.1]? = some fn ∧ compile Tryz.prog ann fn = some p.2 := by
  unfold table
  simp only [List.forall_mem_cons]
  exact ⟨⟨Tryz.f4, _, Tryz.func4, comp_interpreterlaw15_FaultWholeSix⟩, ⟨Tryz.f5, _, Tryz.func5, comp_interpreterlaw15_awake⟩, ⟨Tryz.f6, _, Tryz.func6, comp_fault_Inside4⟩, ⟨Tryz.f7, _, Tryz.func7, comp_fault_Quote6⟩, ⟨Tryz.f9, _, Tryz.func9, comp_ip6_Parse⟩, ⟨Tryz.f10, _, Tryz.func10, comp_tcp_Check⟩, ⟨Tryz.f11, _, Tryz.func11, comp_sum_Pseudo4⟩, ⟨Tryz.f12, _, Tryz.func12, comp_sum_Pseudo6⟩, ⟨Tryz.f13, _, Tryz.func13, comp_udp_Check⟩, ⟨Tryz.f14, _, Tryz.func14, comp_icmp4_Parse⟩, ⟨Tryz.f15, _, Tryz.func15, comp_icmp4_Echo⟩, ⟨Tryz.f16, _, Tryz.func16, comp_icmp6_Parse⟩, ⟨Tryz.f17, _, Tryz.func17, comp_icmp6_Echo⟩, ⟨Tryz.f18, _, Tryz.func18, comp_fault_Inside6⟩, ⟨Tryz.f19, _, Tryz.func19, comp_interpreterref04_Same⟩, ⟨Tryz.f20, _, Tryz.func20, comp_fault_Quote4⟩, ⟨Tryz.f21, _, Tryz.func21, comp_ip4_Parse⟩, ⟨Tryz.f22, _, Tryz.func22, comp_interpreterlaw15_bare⟩, ⟨Tryz.f23, _, Tryz.func23, comp_interpreterref03_Bytes⟩, ⟨Tryz.f24, _, Tryz.func24, comp_interpreterlaw15_gram⟩, ⟨Tryz.f25, _, Tryz.func25, comp_fault_Own4⟩, ⟨Tryz.f26, _, Tryz.func26, comp_interpreterref03_Parse⟩, ⟨Tryz.f27, _, Tryz.func27, comp_fault_fault⟩, ⟨Tryz.f28, _, Tryz.func28, comp_sum_Right⟩, ⟨Tryz.f29, _, Tryz.func29, comp_fault_Inside4_1⟩, ⟨Tryz.f30, _, Tryz.func30, comp_fault_short⟩, ⟨Tryz.f31, _, Tryz.func31, comp_head46_Proto⟩, ⟨Tryz.f32, _, Tryz.func32, comp_fault_within⟩, ⟨Tryz.f33, _, Tryz.func33, comp_fault_big⟩, ⟨Tryz.f34, _, Tryz.func34, comp_fault_turn6⟩, ⟨Tryz.f36, _, Tryz.func36, comp_ip6_fault⟩, ⟨Tryz.f37, _, Tryz.func37, comp_num_New⟩, ⟨Tryz.f38, _, Tryz.func38, comp_num_Reader_U32⟩, ⟨Tryz.f39, _, Tryz.func39, comp_ip6_Chain⟩, ⟨Tryz.f40, _, Tryz.func40, comp_ip6_pieced⟩, ⟨Tryz.f41, _, Tryz.func41, comp_tcp_Parse⟩, ⟨Tryz.f42, _, Tryz.func42, comp_tcp_fault⟩, ⟨Tryz.f43, _, Tryz.func43, comp_sum_big⟩, ⟨Tryz.f44, _, Tryz.func44, comp_udp_Parse⟩, ⟨Tryz.f45, _, Tryz.func45, comp_udp_fault⟩, ⟨Tryz.f46, _, Tryz.func46, comp_icmp4_fault⟩, ⟨Tryz.f47, _, Tryz.func47, comp_icmp6_fault⟩, ⟨Tryz.f48, _, Tryz.func48, comp_head64_Proto⟩, ⟨Tryz.f49, _, Tryz.func49, comp_sum_Of⟩, ⟨Tryz.f50, _, Tryz.func50, comp_fault_turn4⟩, ⟨Tryz.f51, _, Tryz.func51, comp_ip4_fault⟩, ⟨Tryz.f52, _, Tryz.func52, comp_ip4_Parse_1⟩, ⟨Tryz.f53, _, Tryz.func53, comp_ip4_why⟩, ⟨Tryz.f54, _, Tryz.func54, comp_interpreterref03_Why⟩, ⟨Tryz.f55, _, Tryz.func55, comp_interpreterref02_Of⟩, ⟨Tryz.f57, _, Tryz.func57, comp_icmp4_Failure⟩, ⟨Tryz.f58, _, Tryz.func58, comp_class_Martian4⟩, ⟨Tryz.f59, _, Tryz.func59, comp_fault_beginning⟩, ⟨Tryz.f60, _, Tryz.func60, comp_icmp4_Bytes⟩, ⟨Tryz.f61, _, Tryz.func61, comp_ip4_Bytes⟩, ⟨Tryz.f62, _, Tryz.func62, comp_interpreterref03_number⟩, ⟨Tryz.f63, _, Tryz.func63, comp_num_Big⟩, ⟨Tryz.f64, _, Tryz.func64, comp_fault_ported⟩, ⟨Tryz.f65, _, Tryz.func65, comp_fault_echoed⟩, ⟨Tryz.f70, _, Tryz.func70, comp_num_Reader_number⟩, ⟨Tryz.f71, _, Tryz.func71, comp_ip6_extends⟩, ⟨Tryz.f72, _, Tryz.func72, comp_tcp_two⟩, ⟨Tryz.f73, _, Tryz.func73, comp_udp_two⟩, ⟨Tryz.f74, _, Tryz.func74, comp_sum_fold⟩, ⟨Tryz.f75, _, Tryz.func75, comp_sum_add⟩, ⟨Tryz.f76, _, Tryz.func76, comp_ip4_byteful⟩, ⟨Tryz.f77, _, Tryz.func77, comp_interpreterref03_within⟩, ⟨Tryz.f78, _, Tryz.func78, comp_interpreterref02_Total⟩, ⟨Tryz.f79, _, Tryz.func79, comp_interpreterref02_Words⟩, ⟨Tryz.f86, _, Tryz.func86, comp_ip4_big⟩, ⟨Tryz.f87, _, Tryz.func87, comp_interpreterref01_Reader_Number⟩, ⟨Tryz.f88, _, Tryz.func88, comp_fault_update⟩, ⟨Tryz.f92, _, Tryz.func92, comp_num_Reader_Text⟩, ⟨Tryz.f98, _, Tryz.func98, comp_interpreterref01_Reader_Text⟩, ⟨Tryz.f99, _, Tryz.func99, comp_sum_Update⟩, ⟨Tryz.f102, _, Tryz.func102, comp_sum_even⟩, by simp⟩
theorem code_ok : CallOkG (PinAt 0 (laidQ (.iface 163 (.agg #[.pointer (some ⟨2, 31, none⟩)])))) Tryz.prog (extCode id_num_Code ty_ptr_num_Fault) :=
  extCode_ok ⟨_, Tryz.func8, by kernel_rfl, of_decide_eq_true (by kernel_rfl)⟩ code_nil (fun a c w hw ha => code_hit a c w (pin_cell hw) ha)
theorem sysOk : SysOkG (PinAt 0 (laidQ (.iface 163 (.agg #[.pointer (some ⟨2, 31, none⟩)])))) Tryz.prog sys where
  fns := fun f c h => by
    obtain ⟨⟨i, m⟩, h1, h2⟩ := Option.map_eq_some_iff.1 h
    have h3 := List.find?_some h1
    have h4 := List.mem_of_find?_eq_some h1
    simp only [beq_iff_eq] at h3
    subst h3
    have h2 : m = c := h2
    subst h2
    obtain ⟨fn, ann, k1, k2⟩ := table_ok _ h4
    exact ⟨fn, ann, k1, name_ok h4 k1, k2⟩
  ext := orC_ok (callOk_any rep_ok) code_ok
theorem mixed : Tryz.prog.follows .mixedOrders = true := by kernel_rfl
end Go.Ev
