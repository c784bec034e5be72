/- Part 7 of a proof: what the functions yield. It stands by itself; no condition. -/
import Derived.Test.YtpjbapmhahlekaaE4
import Derived.Test.YtpjbapmhahlekaaE6
import Derived.Test.YtpjbapmhahlekaaE2
import Derived.Test.YtpjbapmhahlekaaProg
/- The system is this program's. -/
namespace Go.Ev
open Go.Proofs
set_option maxRecDepth 100000
theorem comp_interpreterlaw03_Ip4Writes : compile Try.prog {} Try.f3 = some c_interpreterlaw03_Ip4Writes := by kernel_rfl
theorem comp_interpreterlaw03_Ip4Reads : compile Try.prog {} Try.f4 = some c_interpreterlaw03_Ip4Reads := by kernel_rfl
theorem comp_interpreterlaw03_Ip4Heads : compile Try.prog {} Try.f5 = some c_interpreterlaw03_Ip4Heads := by kernel_rfl
theorem comp_interpreterlaw03_Ip4Back : compile Try.prog {} Try.f6 = some c_interpreterlaw03_Ip4Back := by kernel_rfl
theorem comp_interpreterlaw03_Ip4Again : compile Try.prog {} Try.f7 = some c_interpreterlaw03_Ip4Again := by kernel_rfl
theorem comp_interpreterlaw03_Ip4Fields : compile Try.prog {} Try.f8 = some c_interpreterlaw03_Ip4Fields := by kernel_rfl
theorem comp_interpreterlaw03_Ip4Cut : compile Try.prog {} Try.f9 = some c_interpreterlaw03_Ip4Cut := by kernel_rfl
theorem comp_interpreterlaw03_Ip4Routes : compile Try.prog {} Try.f10 = some c_interpreterlaw03_Ip4Routes := by kernel_rfl
theorem comp_interpreterlaw03_Ip4Used : compile Try.prog {} Try.f11 = some c_interpreterlaw03_Ip4Used := by kernel_rfl
theorem comp_interpreterlaw03_Ip4Known : compile Try.prog {} Try.f12 = some c_interpreterlaw03_Ip4Known := by kernel_rfl
theorem comp_interpreterlaw03_awake : compile Try.prog {} Try.f13 = some c_interpreterlaw03_awake := by kernel_rfl
theorem comp_ip4_Bytes : compile Try.prog {} Try.f14 = some c_ip4_Bytes := by kernel_rfl
theorem comp_interpreterref03_Bytes : compile Try.prog {bytesM := [70]} Try.f15 = some c_interpreterref03_Bytes := by kernel_rfl
theorem comp_interpreterlaw03_same : compile Try.prog {} Try.f16 = some c_interpreterlaw03_same := by kernel_rfl
theorem comp_ip4_Parse : compile Try.prog {} Try.f17 = some c_ip4_Parse := by kernel_rfl
theorem comp_interpreterref03_Parse : compile Try.prog {} Try.f18 = some c_interpreterref03_Parse := by kernel_rfl
theorem comp_interpreterref02_Of : compile Try.prog {} Try.f19 = some c_interpreterref02_Of := by kernel_rfl
theorem comp_sum_Right : compile Try.prog {} Try.f20 = some c_sum_Right := by kernel_rfl
theorem comp_ip4_Routed : compile Try.prog {} Try.f21 = some c_ip4_Routed := by kernel_rfl
theorem comp_interpreterref03_Routed : compile Try.prog {} Try.f22 = some c_interpreterref03_Routed := by kernel_rfl
theorem comp_interpreterlaw03_example : compile Try.prog {} Try.f23 = some c_interpreterlaw03_example := by kernel_rfl
theorem comp_ip4_why : compile Try.prog {} Try.f25 = some c_ip4_why := by kernel_rfl
theorem comp_ip4_fault : compile Try.prog {} Try.f26 = some c_ip4_fault := by kernel_rfl
theorem comp_ip4_big : compile Try.prog {} Try.f27 = some c_ip4_big := by kernel_rfl
theorem comp_sum_Of : compile Try.prog {} Try.f28 = some c_sum_Of := by kernel_rfl
theorem comp_interpreterref03_Why : compile Try.prog {} Try.f29 = some c_interpreterref03_Why := by kernel_rfl
theorem comp_ip4_Parse_1 : compile Try.prog {} Try.f30 = some c_ip4_Parse_1 := by kernel_rfl
theorem comp_interpreterref03_number : compile Try.prog {bx := [11], cw := [14]} Try.f31 = some c_interpreterref03_number := by kernel_rfl
theorem comp_interpreterref02_Total : compile Try.prog {} Try.f32 = some c_interpreterref02_Total := by kernel_rfl
theorem comp_interpreterref02_Words : compile Try.prog {nilT := [3]} Try.f33 = some c_interpreterref02_Words := by kernel_rfl
theorem comp_ip4_byteful : compile Try.prog {} Try.f40 = some c_ip4_byteful := by kernel_rfl
theorem comp_num_Big : compile Try.prog {} Try.f41 = some c_num_Big := by kernel_rfl
theorem comp_sum_fold : compile Try.prog {} Try.f42 = some c_sum_fold := by kernel_rfl
theorem comp_sum_add : compile Try.prog {} Try.f43 = some c_sum_add := by kernel_rfl
theorem comp_interpreterref03_within : compile Try.prog {} Try.f44 = some c_interpreterref03_within := by kernel_rfl
theorem comp_interpreterref01_Reader_Number : compile Try.prog {cw := [13]} Try.f45 = some c_interpreterref01_Reader_Number := by kernel_rfl
theorem comp_interpreterref01_Reader_Text : compile Try.prog {} Try.f51 = some c_interpreterref01_Reader_Text := by kernel_rfl
theorem rep_extra : Builder.Extra Try.prog Try.laysRepeat_ren where
  sizeBuilder := by kernel_rfl
  liesBuilder := by kernel_rfl
  t5 := Try.laysRepeat.t5
  a5 := Try.laysRepeat.a5
  z5 := Try.laysRepeat.z5
  v5 := Try.laysRepeat.v5
  infoByte := by kernel_rfl
  cellsByte := by kernel_rfl
  sizeByte := by kernel_rfl
  neB5 := by decide
theorem rep_id : Try.laysRepeat_ren.f 105 = id_strings_Repeat := by kernel_rfl
theorem rep_ok : CallOk Try.prog (extR id_strings_Repeat) :=
  extR_ok ⟨Try.f24, Try.func24, by kernel_rfl, of_decide_eq_true (by kernel_rfl)⟩ (fun s c w h1 h2 => by
    have := Any.strings_Repeat Try.laysRepeat rep_extra s c w h1 h2
    rwa [rep_id] at this)
theorem names_ok : ((table.map (·.1)).all fun i => ((Try.prog.funcs[i]?).map fun fn => fn.name != "runtime.NumGoroutine").getD false) = true := by kernel_rfl
theorem name_ok {i : Nat} {c : MFn} {fn : Func} (h : (i, c) ∈ table) (hf : Try.prog.funcs[i]? = some fn) : fn.name ≠ "runtime.NumGoroutine" := by
  have := List.all_eq_true.1 names_ok i (List.mem_map.2 ⟨(i, c), h, rfl⟩)
  rw [hf] at this
  simpa using this
theorem table_ok : ∀ p ∈ table, ∃ fn ann, Try.prog.funcs[p.1]? = some fn ∧ compile Try.prog ann fn = some p.2 := by
  unfold table
  simp only [List.forall_mem_cons]
  exact ⟨⟨Try.f3, _, Try.func3, comp_interpreterlaw03_Ip4Writes⟩, ⟨Try.f4, _, Try.func4, comp_interpreterlaw03_Ip4Reads⟩, ⟨Try.f5, _, Try.func5, comp_interpreterlaw03_Ip4Heads⟩, ⟨Try.f6, _, Try.func6, comp_interpreterlaw03_Ip4Back⟩, ⟨Try.f7, _, Try.func7, comp_interpreterlaw03_Ip4Again⟩, ⟨Try.f8, _, Try.func8, comp_interpreterlaw03_Ip4Fields⟩, ⟨Try.f9, _, Try.func9, comp_interpreterlaw03_Ip4Cut⟩, ⟨Try.f10, _, Try.func10, comp_interpreterlaw03_Ip4Routes⟩, ⟨Try.f11, _, Try.func11, comp_interpreterlaw03_Ip4Used⟩, ⟨Try.f12, _, Try.func12, comp_interpreterlaw03_Ip4Known⟩, ⟨Try.f13, _, Try.func13, comp_interpreterlaw03_awake⟩, ⟨Try.f14, _, Try.func14, comp_ip4_Bytes⟩, ⟨Try.f15, _, Try.func15, comp_interpreterref03_Bytes⟩, ⟨Try.f16, _, Try.func16, comp_interpreterlaw03_same⟩, ⟨Try.f17, _, Try.func17, comp_ip4_Parse⟩, ⟨Try.f18, _, Try.func18, comp_interpreterref03_Parse⟩, ⟨Try.f19, _, Try.func19, comp_interpreterref02_Of⟩, ⟨Try.f20, _, Try.func20, comp_sum_Right⟩, ⟨Try.f21, _, Try.func21, comp_ip4_Routed⟩, ⟨Try.f22, _, Try.func22, comp_interpreterref03_Routed⟩, ⟨Try.f23, _, Try.func23, comp_interpreterlaw03_example⟩, ⟨Try.f25, _, Try.func25, comp_ip4_why⟩, ⟨Try.f26, _, Try.func26, comp_ip4_fault⟩, ⟨Try.f27, _, Try.func27, comp_ip4_big⟩, ⟨Try.f28, _, Try.func28, comp_sum_Of⟩, ⟨Try.f29, _, Try.func29, comp_interpreterref03_Why⟩, ⟨Try.f30, _, Try.func30, comp_ip4_Parse_1⟩, ⟨Try.f31, _, Try.func31, comp_interpreterref03_number⟩, ⟨Try.f32, _, Try.func32, comp_interpreterref02_Total⟩, ⟨Try.f33, _, Try.func33, comp_interpreterref02_Words⟩, ⟨Try.f40, _, Try.func40, comp_ip4_byteful⟩, ⟨Try.f41, _, Try.func41, comp_num_Big⟩, ⟨Try.f42, _, Try.func42, comp_sum_fold⟩, ⟨Try.f43, _, Try.func43, comp_sum_add⟩, ⟨Try.f44, _, Try.func44, comp_interpreterref03_within⟩, ⟨Try.f45, _, Try.func45, comp_interpreterref01_Reader_Number⟩, ⟨Try.f51, _, Try.func51, comp_interpreterref01_Reader_Text⟩, by simp⟩
theorem sysOk : SysOk Try.prog sys where
  fns := fun f c h => by
    obtain ⟨⟨i, m⟩, h1, h2⟩ := Option.map_eq_some_iff.1 h
    have h3 := List.find?_some h1
    have h4 := List.mem_of_find?_eq_some h1
    simp only [beq_iff_eq] at h3
    subst h3
    have h2 : m = c := h2
    subst h2
    obtain ⟨fn, ann, k1, k2⟩ := table_ok _ h4
    exact ⟨fn, ann, k1, name_ok h4 k1, k2⟩
  ext := rep_ok
theorem mixed : Try.prog.follows .mixedOrders = true := by kernel_rfl
end Go.Ev
