/- Part 7 of a proof: what the functions yield. It stands by itself; no condition. -/
import Derived.Test.YtbepgpjmdlnehaaDoorE4
import Derived.Test.YtbepgpjmdlnehaaDoorE2
import Derived.Test.YtbepgpjmdlnehaaDoorE6
import Derived.Test.YtbepgpjmdlnehaaDoorProg
namespace Go.Ev
open Go.Proofs
set_option maxRecDepth 100000
theorem comp_interpreterlaw05_UdpLengths : compile Tryd.prog {} Tryd.f3 = some c_interpreterlaw05_UdpLengths := by kernel_rfl
theorem comp_interpreterlaw05_awake : compile Tryd.prog {} Tryd.f4 = some c_interpreterlaw05_awake := by kernel_rfl
theorem comp_udp_Parse : compile Tryd.prog {} Tryd.f5 = some c_udp_Parse := by kernel_rfl
theorem comp_udp_Check : compile Tryd.prog {} Tryd.f7 = some c_udp_Check := by kernel_rfl
theorem comp_udp_Bytes : compile Tryd.prog {} Tryd.f8 = some c_udp_Bytes := by kernel_rfl
theorem comp_udp_fault : compile Tryd.prog {} Tryd.f9 = some c_udp_fault := by kernel_rfl
theorem comp_udp_two : compile Tryd.prog {} Tryd.f10 = some c_udp_two := by kernel_rfl
theorem comp_sum_Right : compile Tryd.prog {} Tryd.f12 = some c_sum_Right := by kernel_rfl
theorem comp_num_Big : compile Tryd.prog {} Tryd.f13 = some c_num_Big := by kernel_rfl
theorem comp_sum_Of : compile Tryd.prog {} Tryd.f14 = some c_sum_Of := by kernel_rfl
theorem comp_sum_fold : compile Tryd.prog {} Tryd.f19 = some c_sum_fold := by kernel_rfl
theorem comp_sum_add : compile Tryd.prog {} Tryd.f20 = some c_sum_add := by kernel_rfl
theorem names_ok : ((table.map (·.1)).all fun i => ((Tryd.prog.funcs[i]?).map fun fn => fn.name != "runtime.NumGoroutine").getD false) = true := by kernel_rfl
theorem name_ok {i : Nat} {c : MFn} {fn : Func} (h : (i, c) ∈ table) (hf : Tryd.prog.funcs[i]? = some fn) : fn.name ≠ "runtime.NumGoroutine" := by
  have := List.all_eq_true.1 names_ok i (List.mem_map.2 ⟨(i, c), h, rfl⟩)
  rw [hf] at this
  simpa using this
theorem table_ok : ∀ p ∈ table, ∃ fn ann, Tryd.prog.funcs[p.1]? = some fn ∧ compile Tryd.prog ann fn = some p.2 := by
  unfold table
  simp only [List.forall_mem_cons]
  exact ⟨⟨Tryd.f3, _, Tryd.func3, comp_interpreterlaw05_UdpLengths⟩, ⟨Tryd.f4, _, Tryd.func4, comp_interpreterlaw05_awake⟩, ⟨Tryd.f5, _, Tryd.func5, comp_udp_Parse⟩, ⟨Tryd.f7, _, Tryd.func7, comp_udp_Check⟩, ⟨Tryd.f8, _, Tryd.func8, comp_udp_Bytes⟩, ⟨Tryd.f9, _, Tryd.func9, comp_udp_fault⟩, ⟨Tryd.f10, _, Tryd.func10, comp_udp_two⟩, ⟨Tryd.f12, _, Tryd.func12, comp_sum_Right⟩, ⟨Tryd.f13, _, Tryd.func13, comp_num_Big⟩, ⟨Tryd.f14, _, Tryd.func14, comp_sum_Of⟩, ⟨Tryd.f19, _, Tryd.func19, comp_sum_fold⟩, ⟨Tryd.f20, _, Tryd.func20, comp_sum_add⟩, by simp⟩
theorem code_ok : CallOkG (PinAt 0 (laidQ (.iface 63 (.agg #[.pointer (some ⟨1, 26, none⟩)])))) Tryd.prog (extCode id_num_Code ty_ptr_num_Fault) :=
  extCode_ok ⟨_, Tryd.func6, by kernel_rfl, of_decide_eq_true (by kernel_rfl)⟩ code_nil (fun a c w hw ha => code_hit a c w (pin_cell hw) ha)
theorem sysOk : SysOkG (PinAt 0 (laidQ (.iface 63 (.agg #[.pointer (some ⟨1, 26, none⟩)])))) Tryd.prog sys where
  fns := fun f c h => by
    obtain ⟨⟨i, m⟩, h1, h2⟩ := Option.map_eq_some_iff.1 h
    have h3 := List.find?_some h1
    have h4 := List.mem_of_find?_eq_some h1
    simp only [beq_iff_eq] at h3
    subst h3
    have h2 : m = c := h2
    subst h2
    obtain ⟨fn, ann, k1, k2⟩ := table_ok _ h4
    exact ⟨fn, ann, k1, name_ok h4 k1, k2⟩
  ext := code_ok
theorem mixed : Tryd.prog.follows .mixedOrders = true := by kernel_rfl
end Go.Ev
