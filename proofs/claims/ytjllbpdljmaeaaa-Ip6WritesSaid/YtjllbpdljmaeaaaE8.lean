/- Part 8 of a proof: what the functions yield. It stands by itself; no condition. -/
import Derived.Test.YtjllbpdljmaeaaaE4
import Derived.Test.YtjllbpdljmaeaaaE7
import Derived.Test.YtjllbpdljmaeaaaE2
import Derived.Test.YtjllbpdljmaeaaaProg
/- The system is this program's. -/
namespace Go.Ev
open Go.Proofs
set_option maxRecDepth 100000
theorem comp_interpreterlaw04_Ip6Reads : compile Try.prog {} Try.f3 = some c_interpreterlaw04_Ip6Reads := by kernel_rfl
theorem comp_interpreterlaw04_Ip6Chains : compile Try.prog {} Try.f4 = some c_interpreterlaw04_Ip6Chains := by kernel_rfl
theorem comp_interpreterlaw04_Ip6Back : compile Try.prog {} Try.f5 = some c_interpreterlaw04_Ip6Back := by kernel_rfl
theorem comp_interpreterlaw04_Ip6Again : compile Try.prog {} Try.f6 = some c_interpreterlaw04_Ip6Again := by kernel_rfl
theorem comp_interpreterlaw04_Ip6Links : compile Try.prog {} Try.f7 = some c_interpreterlaw04_Ip6Links := by kernel_rfl
theorem comp_interpreterlaw04_Ip6Fields : compile Try.prog {} Try.f8 = some c_interpreterlaw04_Ip6Fields := by kernel_rfl
theorem comp_interpreterlaw04_Ip6Known : compile Try.prog {} Try.f9 = some c_interpreterlaw04_Ip6Known := by kernel_rfl
theorem comp_interpreterlaw04_Ip6Writes : compile Try.prog {} Try.f10 = some c_interpreterlaw04_Ip6Writes := by kernel_rfl
theorem comp_interpreterlaw04_awake : compile Try.prog {} Try.f11 = some c_interpreterlaw04_awake := by kernel_rfl
theorem comp_ip6_Parse : compile Try.prog {cw := [42, 109], cf := [41, 108]} Try.f12 = some c_ip6_Parse := by kernel_rfl
theorem comp_interpreterref04_Parse : compile Try.prog {} Try.f13 = some c_interpreterref04_Parse := by kernel_rfl
theorem comp_interpreterref04_Same : compile Try.prog {} Try.f14 = some c_interpreterref04_Same := by kernel_rfl
theorem comp_interpreterlaw04_same : compile Try.prog {} Try.f15 = some c_interpreterlaw04_same := by kernel_rfl
theorem comp_ip6_Chain : compile Try.prog {} Try.f16 = some c_ip6_Chain := by kernel_rfl
theorem comp_interpreterref04_Chain : compile Try.prog {nilT := [8]} Try.f17 = some c_interpreterref04_Chain := by kernel_rfl
theorem comp_interpreterlaw04_Great : compile Try.prog {} Try.f18 = some c_interpreterlaw04_Great := by kernel_rfl
theorem comp_ip6_Bytes : compile Try.prog {} Try.f19 = some c_ip6_Bytes := by kernel_rfl
theorem comp_interpreterlaw04_zeros : compile Try.prog {} Try.f20 = some c_interpreterlaw04_zeros := by kernel_rfl
theorem comp_ip6_Routed : compile Try.prog {} Try.f22 = some c_ip6_Routed := by kernel_rfl
theorem comp_interpreterref04_Bytes : compile Try.prog {nilT := [5]} Try.f23 = some c_interpreterref04_Bytes := by kernel_rfl
theorem comp_interpreterref04_Routed : compile Try.prog {} Try.f24 = some c_interpreterref04_Routed := by kernel_rfl
theorem comp_ip6_fault : compile Try.prog {} Try.f25 = some c_ip6_fault := by kernel_rfl
theorem comp_num_New : compile Try.prog {bx := [5]} Try.f26 = some c_num_New := by kernel_rfl
theorem comp_num_Reader_U32 : compile Try.prog {cw := [5]} Try.f27 = some c_num_Reader_U32 := by kernel_rfl
theorem comp_ip6_pieced : compile Try.prog {} Try.f28 = some c_ip6_pieced := by kernel_rfl
theorem comp_interpreterref04_number : compile Try.prog {bx := [13], cw := [17]} Try.f29 = some c_interpreterref04_number := by kernel_rfl
theorem comp_ip6_extends : compile Try.prog {} Try.f30 = some c_ip6_extends := by kernel_rfl
theorem comp_ip6_why : compile Try.prog {} Try.f31 = some c_ip6_why := by kernel_rfl
theorem comp_ip6_big : compile Try.prog {} Try.f32 = some c_ip6_big := by kernel_rfl
theorem comp_interpreterref04_Why : compile Try.prog {} Try.f39 = some c_interpreterref04_Why := by kernel_rfl
theorem comp_interpreterref04_put : compile Try.prog {} Try.f40 = some c_interpreterref04_put := by kernel_rfl
theorem comp_num_Reader_number : compile Try.prog {cw := [13]} Try.f41 = some c_num_Reader_number := by kernel_rfl
theorem comp_interpreterref01_Reader_Number : compile Try.prog {cw := [13]} Try.f42 = some c_interpreterref01_Reader_Number := by kernel_rfl
theorem comp_ip6_within : compile Try.prog {} Try.f43 = some c_ip6_within := by kernel_rfl
theorem comp_ip6_kinds : compile Try.prog {} Try.f44 = some c_ip6_kinds := by kernel_rfl
theorem comp_ip6_formed : compile Try.prog {} Try.f45 = some c_ip6_formed := by kernel_rfl
theorem comp_ip6_size : compile Try.prog {} Try.f46 = some c_ip6_size := by kernel_rfl
theorem comp_num_Big : compile Try.prog {} Try.f47 = some c_num_Big := by kernel_rfl
theorem comp_interpreterref04_bound : compile Try.prog {} Try.f53 = some c_interpreterref04_bound := by kernel_rfl
theorem comp_interpreterref01_Put : compile Try.prog {} Try.f54 = some c_interpreterref01_Put := by kernel_rfl
theorem comp_num_Reader_Text : compile Try.prog {} Try.f55 = some c_num_Reader_Text := by kernel_rfl
theorem comp_interpreterref01_Reader_Text : compile Try.prog {} Try.f56 = some c_interpreterref01_Reader_Text := by kernel_rfl
theorem rep_extra : Builder.Extra Try.prog Try.laysRepeat_ren where
  sizeBuilder := by kernel_rfl
  liesBuilder := by kernel_rfl
  t5 := Try.laysRepeat.t5
  a5 := Try.laysRepeat.a5
  z5 := Try.laysRepeat.z5
  v5 := Try.laysRepeat.v5
  infoByte := by kernel_rfl
  cellsByte := by kernel_rfl
  sizeByte := by kernel_rfl
  neB5 := by decide
theorem rep_id : Try.laysRepeat_ren.f 105 = id_strings_Repeat := by kernel_rfl
theorem rep_ok : CallOk Try.prog (extR id_strings_Repeat) :=
  extR_ok ⟨Try.f21, Try.func21, by kernel_rfl, of_decide_eq_true (by kernel_rfl)⟩ (fun s c w h1 h2 => by
    have := Any.strings_Repeat Try.laysRepeat rep_extra s c w h1 h2
    rwa [rep_id] at this)
theorem names_ok : ((table.map (·.1)).all fun i => ((Try.prog.funcs[i]?).map fun fn => fn.name != "runtime.NumGoroutine").getD false) = true := by kernel_rfl
theorem name_ok {i : Nat} {c : MFn} {fn : Func} (h : (i, c) ∈ table) (hf : Try.prog.funcs[i]? = some fn) : fn.name ≠ "runtime.NumGoroutine" := by
  have := List.all_eq_true.1 names_ok i (List.mem_map.2 ⟨(i, c), h, rfl⟩)
  rw [hf] at this
  simpa using this
theorem table_ok : ∀ p ∈ table, ∃ fn ann, Try.prog.funcs[p.1]? = some fn ∧ compile Try.prog ann fn = some p.2 := by
  unfold table
  simp only [List.forall_mem_cons]
  exact ⟨⟨Try.f3, _, Try.func3, comp_interpreterlaw04_Ip6Reads⟩, ⟨Try.f4, _, Try.func4, comp_interpreterlaw04_Ip6Chains⟩, ⟨Try.f5, _, Try.func5, comp_interpreterlaw04_Ip6Back⟩, ⟨Try.f6, _, Try.func6, comp_interpreterlaw04_Ip6Again⟩, ⟨Try.f7, _, Try.func7, comp_interpreterlaw04_Ip6Links⟩, ⟨Try.f8, _, Try.func8, comp_interpreterlaw04_Ip6Fields⟩, ⟨Try.f9, _, Try.func9, comp_interpreterlaw04_Ip6Known⟩, ⟨Try.f10, _, Try.func10, comp_interpreterlaw04_Ip6Writes⟩, ⟨Try.f11, _, Try.func11, comp_interpreterlaw04_awake⟩, ⟨Try.f12, _, Try.func12, comp_ip6_Parse⟩, ⟨Try.f13, _, Try.func13, comp_interpreterref04_Parse⟩, ⟨Try.f14, _, Try.func14, comp_interpreterref04_Same⟩, ⟨Try.f15, _, Try.func15, comp_interpreterlaw04_same⟩, ⟨Try.f16, _, Try.func16, comp_ip6_Chain⟩, ⟨Try.f17, _, Try.func17, comp_interpreterref04_Chain⟩, ⟨Try.f18, _, Try.func18, comp_interpreterlaw04_Great⟩, ⟨Try.f19, _, Try.func19, comp_ip6_Bytes⟩, ⟨Try.f20, _, Try.func20, comp_interpreterlaw04_zeros⟩, ⟨Try.f22, _, Try.func22, comp_ip6_Routed⟩, ⟨Try.f23, _, Try.func23, comp_interpreterref04_Bytes⟩, ⟨Try.f24, _, Try.func24, comp_interpreterref04_Routed⟩, ⟨Try.f25, _, Try.func25, comp_ip6_fault⟩, ⟨Try.f26, _, Try.func26, comp_num_New⟩, ⟨Try.f27, _, Try.func27, comp_num_Reader_U32⟩, ⟨Try.f28, _, Try.func28, comp_ip6_pieced⟩, ⟨Try.f29, _, Try.func29, comp_interpreterref04_number⟩, ⟨Try.f30, _, Try.func30, comp_ip6_extends⟩, ⟨Try.f31, _, Try.func31, comp_ip6_why⟩, ⟨Try.f32, _, Try.func32, comp_ip6_big⟩, ⟨Try.f39, _, Try.func39, comp_interpreterref04_Why⟩, ⟨Try.f40, _, Try.func40, comp_interpreterref04_put⟩, ⟨Try.f41, _, Try.func41, comp_num_Reader_number⟩, ⟨Try.f42, _, Try.func42, comp_interpreterref01_Reader_Number⟩, ⟨Try.f43, _, Try.func43, comp_ip6_within⟩, ⟨Try.f44, _, Try.func44, comp_ip6_kinds⟩, ⟨Try.f45, _, Try.func45, comp_ip6_formed⟩, ⟨Try.f46, _, Try.func46, comp_ip6_size⟩, ⟨Try.f47, _, Try.func47, comp_num_Big⟩, ⟨Try.f53, _, Try.func53, comp_interpreterref04_bound⟩, ⟨Try.f54, _, Try.func54, comp_interpreterref01_Put⟩, ⟨Try.f55, _, Try.func55, comp_num_Reader_Text⟩, ⟨Try.f56, _, Try.func56, comp_interpreterref01_Reader_Text⟩, by simp⟩
theorem sysOk : SysOk Try.prog sys where
  fns := fun f c h => by
    obtain ⟨⟨i, m⟩, h1, h2⟩ := Option.map_eq_some_iff.1 h
    have h3 := List.find?_some h1
    have h4 := List.mem_of_find?_eq_some h1
    simp only [beq_iff_eq] at h3
    subst h3
    have h2 : m = c := h2
    subst h2
    obtain ⟨fn, ann, k1, k2⟩ := table_ok _ h4
    exact ⟨fn, ann, k1, name_ok h4 k1, k2⟩
  ext := rep_ok
theorem mixed : Try.prog.follows .mixedOrders = true := by kernel_rfl
end Go.Ev
